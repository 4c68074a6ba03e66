/- CopiesOrder returns true for every run and a number, and leaves what it was handed as it was. No condition. -/
import Derived.Test.YtcbgfmalillplaaQOrder4
import Derived.Deep.Slices
import Derived.ChangeShapes
import Derived.Carry
import Derived.OpenShut
import Derived.SizedLaws
import Derived.Test.YtcbgfmalillplaaRows
import Derived.ProofKit
import Derived.JoinedOf
set_option linter.all false
set_option linter.deprecated false
namespace Go.Sh
def chFrom (r:Run) (first:List Int):Nat->List (List Int)
 | 0=>[first]
 | k + 1=>(chFrom r first k).flatMap fun l=>(fnd r l.length).frm.map fun m=>l ++ [m]
theorem chFrom_head (r:Run):∀ k first,chFrom r first (k + 1)=(fnd r first.length).frm.flatMap fun m=>chFrom r (first ++ [m]) k:=by
 intro k
 induction k with
 | zero =>
  intro first
  simp only [chFrom,List.flatMap_cons,List.flatMap_nil,List.append_nil]
  generalize (fnd r first.length).frm=l
  induction l with
  | nil=>rfl
  | cons x l ih=>rw [List.map_cons,List.flatMap_cons,ih]; rfl
 | succ k ih =>
  intro first
  rw [chFrom,ih,List.flatMap_assoc]
  rfl
theorem choicesN_from (r:Run):∀ k first,choicesN r k first=chFrom r first k:=by
 intro k
 induction k with
 | zero=>intro first; rfl
 | succ k ih =>
  intro first
  rw [choicesN,chFrom_head]
  congr 1
  funext m
  exact ih _
theorem choices_from (r:Run):choices r []=chFrom r [] r.found.length:=by
 rw [choices,choicesN_from]; rfl
theorem spanTo_snoc (r:Run) (l:List Int) (x:Int) (j q:Nat):∀ n,n<=l.length->spanTo r (l ++ [x]) j q n=spanTo r l j q n:=by
 intro n
 induction n with
 | zero=>intro _; rfl
 | succ n ih =>
  intro h
  rw [spanTo_succ,spanTo_succ,ih (by omega)]
  have e:(l ++ [x]).getD n 0=l.getD n 0:=by rw [Go.Ab.getD_append,if_pos (by omega)]
  unfold spanStep
  rw [e]
theorem spanOf_snoc (r:Run) (l:List Int) (x:Int) (j q:Nat):spanOf r (l ++ [x]) j q=if x=(j:Int) then seeOne (fnd r l.length) q (spanOf r l j q) else spanOf r l j q:=by
 unfold spanOf
 rw [List.length_append,List.length_singleton,spanTo_succ,spanTo_snoc r l x j q _ (Nat.le_refl _)]
 unfold spanStep
 rw [Go.Ab.getD_append,if_neg (Nat.lt_irrefl _),Nat.sub_self]
 show (if x=(j:Int) then _ else _)=_
 split
 ·unfold seeOne
  by_cases h0:(fnd r l.length).new.getD q 0=0
  ·rw [if_pos h0,if_neg (by rw [h0]; decide),if_pos h0]
  ·rw [if_neg h0]
   split
   ·rfl
   ·rfl
 ·rfl
theorem seeOne_narrow (c:Fnd) (q:Nat) (s:Span):s.lo<=(seeOne c q s).lo/\(seeOne c q s).hi<=s.hi:=by
 unfold seeOne
 split
 ·exact ⟨Int.le_max_left _ _,Int.le_refl _⟩
 ·split
  ·exact ⟨Int.le_refl _,Int.min_le_left _ _⟩
  ·exact ⟨Int.le_refl _,Int.le_refl _⟩
theorem canBe_iff {r:Run} (ok:Ok r) {l:List Int}:canBe r l=true ↔ ∀ m,m < r.machines.length -> ∀ p:Nat,(p:Int) < r.plates->(spanOf r l m p).lo<=(spanOf r l m p).hi:=by
 unfold canBe canBeM canBeAt
 simp only [List.all_eq_true,List.mem_range,decide_eq_true_eq]
 have:=ok.plates
 constructor
 ·intro h m hm p hp; exact h m hm p (by omega)
 ·intro h m hm p hp; exact h m hm p (by omega)
theorem canBe_snoc {r:Run} (ok:Ok r) {l:List Int} {x:Int} (h:canBe r (l ++ [x])=true):canBe r l=true:=by
 rw [canBe_iff ok] at h ⊢
 intro m hm p hp
 have h1:=h m hm p hp
 rw [spanOf_snoc] at h1
 split at h1
 ·have:=seeOne_narrow (fnd r l.length) p (spanOf r l m p); omega
 ·exact h1
theorem seeN_spec (c:Fnd) (m:Nat):∀ k p (f:Nat->Nat->Span),((seeN c m k p f).1=true ↔ ∀ q,p<=q->q < p + k->(seeOne c q (f m q)).lo<=(seeOne c q (f m q)).hi) ∧
  ((seeN c m k p f).1=true -> ∀ j q,(seeN c m k p f).2 j q=if j=m/\p<=q/\q < p + k then seeOne c q (f j q) else f j q):=by
 intro k
 induction k with
 | zero =>
  intro p f
  refine ⟨⟨fun _ q h1 h2=>by omega,fun _=>rfl⟩,fun _ j q => ?_⟩
  rw [if_neg (by omega)]; rfl
 | succ k ih =>
  intro p f
  by_cases hs:(seeOne c p (f m p)).lo > (seeOne c p (f m p)).hi
  ·rw [seeN_stop hs]
   refine ⟨⟨fun h=>(by cases h),fun h => ?_⟩,fun h=>(by cases h)⟩
   have:=h p (Nat.le_refl _) (by omega)
   omega
  ·rw [seeN_go hs]
   obtain ⟨h1,h2⟩:=ih (p + 1) (upd2 f m p (seeOne c p (f m p)))
   have hq:∀ q,p + 1<=q->upd2 f m p (seeOne c p (f m p)) m q=f m q:=by
    intro q hq
    unfold upd2
    rw [if_pos rfl,if_neg (by omega)]
   refine ⟨⟨fun h q a b => ?_,fun h=>h1.2 fun q a b => ?_⟩,fun h j q => ?_⟩
   ·by_cases e:q=p
    ·subst e; omega
    ·have:=h1.1 h q (by omega) (by omega)
     rw [hq q (by omega)] at this
     exact this
   ·rw [hq q a]
    exact h q (by omega) (by omega)
   ·rw [h2 h j q]
    by_cases hj:j=m
    ·subst hj
     by_cases e:q=p
     ·subst e
      rw [if_neg (by omega),if_pos ⟨rfl,by omega,by omega⟩,upd2_at]
     ·by_cases hr:p + 1<=q/\q < p + 1 + k
      ·rw [if_pos ⟨rfl,hr⟩,if_pos ⟨rfl,by omega,by omega⟩,hq q hr.1]
      ·rw [if_neg (fun h=>hr h.2),if_neg (by omega)]
       unfold upd2
       rw [if_pos rfl,if_neg e]
    ·rw [if_neg (fun h=>hj h.1),if_neg (fun h=>hj h.1)]
     unfold upd2
     rw [if_neg hj]
theorem filter_flatMap {α β:Type} (L:List α) (g:α->List β) (P:α->Bool) (Q:β->Bool) (h:∀ l,l ∈ L->P l=false -> ∀ x,x ∈ g l->Q x=false):(L.flatMap g).filter Q=(L.filter P).flatMap fun l=>(g l).filter Q:=by
 induction L with
 | nil=>rfl
 | cons a L ih =>
  rw [List.flatMap_cons,List.filter_append,ih (fun l hl=>h l (List.mem_cons_of_mem _ hl))]
  cases hp:P a with
  | true=>rw [List.filter_cons_of_pos hp,List.flatMap_cons]
  | false =>
   rw [List.filter_cons_of_neg (by rw [hp]; exact Bool.false_ne_true)]
   have:(g a).filter Q = []:=by
    rw [List.filter_eq_nil_iff]
    intro x hx
    rw [h a (List.mem_cons_self ..) hp x hx]; exact Bool.false_ne_true
   rw [this]; rfl
def WayOK (r:Run) (w:WayS):Prop:=canBe r w.frm=true /\ ∀ m,m < r.machines.length -> ∀ p:Nat,(p:Int) < r.plates->w.whn m p=spanOf r w.frm m p
theorem one_ok {r:Run} (ok:Ok r) {n:Nat} (hn:n < r.found.length) {w:WayS} (hw:WayOK r w) (hl:w.frm.length=n) {x:Int} (hx:0<=x/\x < r.machines.length) :
  (see (fnd r n) x.toNat w.whn).1=canBe r (w.frm ++ [x])/\((see (fnd r n) x.toNat w.whn).1=true->WayOK r ⟨w.frm ++ [x],(see (fnd r n) x.toNat w.whn).2⟩):=by
 obtain ⟨h1,h2⟩:=seeN_spec (fnd r n) x.toNat (fnd r n).new.length 0 w.whn
 have hf:=ok.fnd n hn
 have hp:=ok.plates
 have key:∀ j,j < r.machines.length -> ∀ q:Nat,(q:Int) < r.plates->spanOf r (w.frm ++ [x]) j q=if j=x.toNat then seeOne (fnd r n) q (w.whn j q) else w.whn j q:=by
  intro j hj q hq
  rw [spanOf_snoc,hl,hw.2 j hj q hq]
  by_cases e:j=x.toNat
  ·rw [if_pos e,if_pos (by omega)]
  ·rw [if_neg e,if_neg (by omega)]
 have hc:=(canBe_iff ok).1 hw.1
 have hiff:(see (fnd r n) x.toNat w.whn).1=true ↔ canBe r (w.frm ++ [x])=true:=by
  unfold see
  rw [h1,canBe_iff ok]
  constructor
  ·intro h m hm p hpp
   rw [key m hm p hpp]
   split
   ·rename_i e
    subst e
    exact h p (Nat.zero_le _) (by omega)
   ·rw [hw.2 m hm p hpp]; exact hc m hm p hpp
  ·intro h q _ hq
   have:=h x.toNat (by omega) q (by omega)
   rw [key _ (by omega) q (by omega),if_pos rfl] at this
   exact this
 refine ⟨?_,fun h=>⟨hiff.1 h,fun m hm p hpp => ?_⟩⟩
 ·cases e:canBe r (w.frm ++ [x]) with
  | true=>exact hiff.2 e
  | false =>
   cases e2:(see (fnd r n) x.toNat w.whn).1 with
   | true=>rw [hiff.1 e2] at e; cases e
   | false=>rfl
 ·show (see (fnd r n) x.toNat w.whn).2 m p=spanOf r (w.frm ++ [x]) m p
  rw [key m hm p hpp]
  unfold see at h ⊢
  rw [h2 h m p]
  by_cases e:m=x.toNat
  ·rw [if_pos ⟨e,Nat.zero_le _,by omega⟩,if_pos e]
  ·rw [if_neg (fun hh=>e hh.1),if_neg e]
theorem step_frm {r:Run} (ok:Ok r) {n:Nat} (hn:n < r.found.length) {w:WayS} (hw:WayOK r w) (hl:w.frm.length=n) :
  (step r n w).map (·.frm)=((fnd r n).frm.map fun m=>w.frm ++ [m]).filter (canBe r) /\ ∀ v,v ∈ step r n w->WayOK r v:=by
 have:∀ L:List Int,(∀ x,x ∈ L->0<=x/\x < r.machines.length)->(L.filterMap (one r n w)).map (·.frm)=(L.map fun m=>w.frm ++ [m]).filter (canBe r) /\ ∀ v,v ∈ L.filterMap (one r n w)->WayOK r v:=by
  intro L
  induction L with
  | nil=>intro _; exact ⟨rfl,fun v h=>by cases h⟩
  | cons x L ih =>
   intro hL
   obtain ⟨h1,h2⟩:=one_ok ok hn hw hl (hL x (List.mem_cons_self ..))
   obtain ⟨i1,i2⟩:=ih fun y hy=>hL y (List.mem_cons_of_mem _ hy)
   cases e:canBe r (w.frm ++ [x]) with
   | true =>
    rw [e] at h1
    have ho:one r n w x=some ⟨w.frm ++ [x],(see (fnd r n) x.toNat w.whn).2⟩:=by rw [one,if_pos h1]
    rw [List.filterMap_cons_some ho,List.map_cons (f:=fun m=>w.frm ++ [m]),List.filter_cons_of_pos e]
    refine ⟨by simp only [List.map_cons,i1],fun v hv => ?_⟩
    rcases List.mem_cons.1 hv with rfl | hv
    ·exact h2 h1
    ·exact i2 v hv
   | false =>
    rw [e] at h1
    have ho:one r n w x=none:=by rw [one,h1]; rfl
    rw [List.filterMap_cons_none ho,List.map_cons,List.filter_cons_of_neg (by rw [e]; exact Bool.false_ne_true)]
    exact ⟨i1,i2⟩
 exact this _ fun x hx=>frm_range ok hn hx
theorem waysTo_link {r:Run} (ok:Ok r):∀ n,n<=r.found.length->(waysTo r n).map (·.frm)=(chFrom r [] n).filter (canBe r) /\ ∀ w,w ∈ waysTo r n->WayOK r w:=by
 intro n
 induction n with
 | zero =>
  intro _
  have hs:∀ m,m < r.machines.length -> ∀ p:Nat,(p:Int) < r.plates->firstWhn r r.machines.length m p=spanOf r [] m p:=by
   intro m hm p hp
   have:=(ok.mach m hm).1
   unfold firstWhn
   rw [if_pos hm,if_pos (by omega)]; rfl
  have hc:canBe r []=true:=by
   rw [canBe_iff ok]
   intro m hm p hp
   have h1:=(ok.mach m hm).1
   have h2:=ok.span m hm p (by omega)
   show (chg (mach r m) p).lo<=(chg (mach r m) p).hi
   omega
  refine ⟨?_,fun w hw => ?_⟩
  ·show [([]:List Int)]=List.filter (canBe r) [[]]
   rw [List.filter_cons_of_pos hc]; rfl
  ·have:w=⟨[],firstWhn r r.machines.length⟩:=by simpa [waysTo] using hw
   subst this
   exact ⟨hc,hs⟩
 | succ n ih =>
  intro hn
  obtain ⟨h1,h2⟩:=ih (by omega)
  have hst:=fun w hw=>step_frm ok (n:=n) (by omega) (h2 w hw) (waysTo_frm n w hw)
  refine ⟨?_,fun v hv => ?_⟩
  ·rw [waysTo,chFrom,List.map_flatMap,filter_flatMap _ _ (canBe r) (canBe r) (fun l hl hf x hx => ?_),← h1,List.flatMap_map]
   ·have:∀ L:List WayS,(∀ w,w ∈ L->w ∈ waysTo r n)->L.flatMap (fun w=>(step r n w).map (·.frm))=L.flatMap fun w=>((fnd r w.frm.length).frm.map fun m=>w.frm ++ [m]).filter (canBe r):=by
     intro L
     induction L with
     | nil=>intro _; rfl
     | cons w L ihL =>
      intro hL
      rw [List.flatMap_cons,List.flatMap_cons,ihL (fun v hv=>hL v (List.mem_cons_of_mem _ hv)),(hst w (hL w (List.mem_cons_self ..))).1,waysTo_frm n w (hL w (List.mem_cons_self ..))]
    exact this _ fun w hw=>hw
   ·obtain ⟨m,_,rfl⟩:=List.mem_map.1 hx
    cases e:canBe r (l ++ [m]) with
    | false=>rfl
    | true=>rw [canBe_snoc ok e] at hf; cases hf
  ·rw [waysTo,List.mem_flatMap] at hv
   obtain ⟨w,hw,hv⟩:=hv
   exact (hst w hw).2 v hv
theorem ways_froms {r:Run} (ok:Ok r):(waysOf r).map (·.frm)=fromsOf r:=by
 rw [waysOf,(waysTo_link ok _ (Nat.le_refl _)).1,fromsOf,choices_from]
theorem way_ok {r:Run} (ok:Ok r) {w:WayS} (h:w ∈ waysOf r):WayOK r w:=(waysTo_link ok _ (Nat.le_refl _)).2 w h
theorem ways_len {r:Run} (ok:Ok r):(waysOf r).length=(fromsOf r).length:=by rw [← ways_froms ok,List.length_map]
theorem open_eq (r:Run) (is:Bool):openE r is=rfE r is:=by
 unfold openE rfE
 split
 ·rename_i h
  rw [ways_len (ok_of (check_zero.1 h))]
 ·rfl
end Go.Sh
namespace Go.Sh
theorem rf_zero {r:Run} {is:Bool} (h:rfE r is=0):Ok r/\is=true:=⟨ok_of (check_zero.1 (rfE_zero h).1),(rfE_zero h).2.1⟩
theorem cnt_all (l:List WayS) (P:WayS->Bool):cnt l P l.length=l.countP P:=by rw [cnt,List.take_length]
end Go.Sh
namespace Go.Sh
theorem far_small {r:Run} (h:far r=false) (hf:fits r):small r:=by
 simp only [far,huge,Bool.or_eq_false_iff,decide_eq_false_iff_not,List.any_eq_false] at h
 obtain ⟨⟨⟨⟨h1,h2⟩,h3⟩,h4⟩,_⟩:=h
 refine ⟨by omega,by omega,fun i => ?_,fun i => ?_⟩
 ·by_cases hi:i < r.machines.length
  ·have:=h3 _ (Go.Ab.getD_mem r.machines default hi)
   simp only [hugeM,decide_eq_true_eq] at this
   show (r.machines.getD i default).changes.length<=_
   omega
  ·rw [mach,Go.Ab.getD_ge _ _ (by omega)]; exact Nat.zero_le _
 ·by_cases hi:i < r.found.length
  ·have:=h4 _ (Go.Ab.getD_mem r.found default hi)
   simp only [hugeF,Bool.or_eq_true,decide_eq_true_eq,not_or] at this
   show (r.found.getD i default).new.length<=_/\(r.found.getD i default).frm.length<=_
   omega
  ·rw [fnd,Go.Ab.getD_ge _ _ (by omega)]; exact ⟨Nat.zero_le _,Nat.zero_le _⟩
end Go.Sh
namespace Go.Ab
open Go Go.RowKit Go.Proofs Go.Sh Go.En
end Go.Ab
namespace Go.Ab
open Go Go.RowKit Go.Proofs Go.Sh Go.En
end Go.Ab
namespace Go.Sh
theorem map_getD {l:List WayS} {i:Nat} (h:i < l.length):(l.map (·.frm)).getD i []=(l.getD i default).frm:=by
 rw [Go.Ab.getD_lt _ _ (by simpa using h),Go.Ab.getD_lt _ _ h,List.getElem_map]
theorem hull_eq {l:List WayS} {F:WayS->Span} {G:List Int->Span} (hl:0 < l.length) (h:∀ w,w ∈ l->F w=G w.frm):hullOf l F=rhull (l.map (·.frm)) G:=by
 have:∀ n,n<=l.length->hullTo l F n=rhullTo (l.map (·.frm)) G n:=by
  intro n
  induction n with
  | zero =>
   intro _
   show F (l.getD 0 default)=G ((l.map (·.frm)).getD 0 [])
   rw [map_getD hl]
   exact h _ (Go.Ab.getD_mem _ default hl)
  | succ n ih =>
   intro hn
   rw [hullTo_succ,rhullTo_succ,ih (by omega),map_getD (by omega),h _ (Go.Ab.getD_mem _ default (by omega))]
 rw [hullOf,rhull,this _ (Nat.le_refl _),List.length_map]
theorem ways_pos {r:Run} {is:Bool} (h:rfE r is=0):0 < (waysOf r).length:=by
 obtain ⟨ok,_⟩:=rf_zero h
 rw [ways_len ok]; exact (rfE_zero h).2.2
theorem when_eq (r:Run) (m p:Int):whenS r m p=whenR r m p:=by
 unfold whenS whenR
 rw [open_eq]
 split
 ·rename_i h0
  obtain ⟨ok,his⟩:=rf_zero h0
  obtain ⟨a1,a2,a3,a4⟩:=whenIs_ok ok his
  rw [← ways_froms ok]
  exact hull_eq (ways_pos h0) fun w hw=>(way_ok ok hw).2 _ a2 _ a4
 ·rfl
theorem count_range:∀ (M:Nat) (K:List Int),K.Nodup->(∀ x,x ∈ K->0<=x/\x < M)->K.length=(List.range M).countP (fun m:Nat=>decide ((m:Int) ∈ K)):=by
 intro M
 induction M with
 | zero =>
  intro K _ h
  cases K with
  | nil=>rfl
  | cons x K=>have:=h x (List.mem_cons_self ..); omega
 | succ M ih =>
  intro K hn h
  have h1:=ih (K.filter (fun x => !decide (x=(M:Int)))) (hn.filter _) (fun x hx=>by
   rw [List.mem_filter] at hx
   have:=h x hx.1
   have h2:x ≠ (M:Int):=by simpa using hx.2
   omega)
  have h2:K.length=(K.filter (fun x => !decide (x=(M:Int)))).length + if (M:Int) ∈ K then 1 else 0:=by
   clear ih h1 h
   induction K with
   | nil=>rfl
   | cons x K ihK =>
    have hnc:=List.nodup_cons.1 hn
    have:=ihK hnc.2
    by_cases e:x=(M:Int)
    ·subst e
     have hf:(K.filter (fun x => !decide (x=(M:Int))))=K:=by
      rw [List.filter_eq_self]
      intro y hy
      simp only [Bool.not_eq_true',decide_eq_false_iff_not]
      intro e; subst e; exact hnc.1 hy
     rw [List.filter_cons_of_neg (by simp),hf,if_pos (List.mem_cons_self ..)]; rfl
    ·rw [List.filter_cons_of_pos (by simpa using e),List.length_cons,List.length_cons,this]
     by_cases hm:(M:Int) ∈ K
     ·rw [if_pos hm,if_pos (List.mem_cons_of_mem _ hm)]
     ·rw [if_neg hm,if_neg (by simp only [List.mem_cons,not_or]; exact ⟨fun e'=>e e'.symm,hm⟩)]
  rw [h2,h1,List.range_succ,List.countP_append,List.countP_singleton]
  congr 1
  ·apply List.countP_congr
   intro m hm
   have hlt:=List.mem_range.1 hm
   simp only [List.mem_filter,Bool.not_eq_true',decide_eq_false_iff_not,decide_eq_true_eq]
   constructor
   ·exact fun hh=>hh.1
   ·exact fun hh=>⟨hh,by omega⟩
  ·by_cases hm:(M:Int) ∈ K <;> simp [hm]
theorem isIn_mem {l:List Int} {x:Int}:isIn l x=true ↔ x ∈ l:=by
 unfold isIn; simp
theorem logTo_keys (l:List Int):∀ n,n<=l.length->(Go.Ab.mkeys (logTo l n)).Nodup /\ ∀ x,x ∈ Go.Ab.mkeys (logTo l n) ↔ x ∈ l.take n:=by
 intro n
 induction n with
 | zero=>intro _; exact ⟨List.nodup_nil,fun x=>by simp [logTo,Go.Ab.mkeys]⟩
 | succ n ih =>
  intro hn
  obtain ⟨h1,h2⟩:=ih (by omega)
  rw [logTo_succ,Go.Ab.mkeys_snoc,Go.Ab.take_succ _ 0 (by omega)]
  split
  ·rename_i hm
   refine ⟨h1,fun x => ?_⟩
   rw [h2,List.mem_append,List.mem_singleton]
   constructor
   ·exact .inl
   ·rintro (h | rfl)
    ·exact h
    ·exact (h2 _).1 hm
  ·rename_i hm
   refine ⟨?_,fun x => ?_⟩
   ·rw [List.nodup_append]
    refine ⟨h1,by simp,?_⟩
    intro a ha b hb e
    rw [List.mem_singleton] at hb
    subst e; subst hb
    exact hm ha
   ·rw [List.mem_append,List.mem_append,h2]
theorem used_eq {l:List Int} {M:Nat} (h:∀ x,x ∈ l->0<=x/\x < M):usedW l=usedTo l M:=by
 obtain ⟨h1,h2⟩:=logTo_keys l l.length (Nat.le_refl _)
 rw [List.take_length] at h2
 unfold usedW usedTo
 rw [count_range M _ h1 (fun x hx=>h x ((h2 x).1 hx))]
 apply List.countP_congr
 intro m _
 rw [decide_eq_true_eq,h2,isIn_mem]
theorem few_eq (r:Run):fewP r=fewR r:=by
 unfold fewP fewR
 rw [open_eq]
 split
 ·rename_i h0
  obtain ⟨ok,_⟩:=rf_zero h0
  have:∀ n,n<=(waysOf r).length->fewPTo r (waysOf r) n=fewTo r (fromsOf r) n:=by
   intro n
   induction n with
   | zero=>intro _; rfl
   | succ n ih =>
    intro hn
    rw [fewPTo_succ,fewTo_succ,ih (by omega),← ways_froms ok,map_getD (by omega)]
    have hm:=Go.Ab.getD_mem (waysOf r) default (show n < (waysOf r).length by omega)
    rw [used_eq (M:=r.machines.length) (fun x hx => ?_)]
    obtain ⟨i,hi,rfl⟩:=List.getElem_of_mem hx
    have:=way_mach ok hm (i:=i) (by rw [← way_frm hm]; exact hi)
    rw [Go.Ab.getD_lt _ _ hi] at this
    exact this
  rw [this _ (Nat.le_refl _),ways_len ok]
 ·rfl
theorem sorted_ext:∀ (l m:List Int),l.Pairwise (· < ·)->m.Pairwise (· < ·)->(∀ x,x ∈ l ↔ x ∈ m)->l=m:=by
 intro l
 induction l with
 | nil =>
  intro m _ _ h
  cases m with
  | nil=>rfl
  | cons y m=>exact absurd ((h y).2 (List.mem_cons_self ..)) (by simp)
 | cons x l ih =>
  intro m hl hm h
  cases m with
  | nil=>exact absurd ((h x).1 (List.mem_cons_self ..)) (by simp)
  | cons y m =>
   obtain ⟨l1,l2⟩:=List.pairwise_cons.1 hl
   obtain ⟨m1,m2⟩:=List.pairwise_cons.1 hm
   have e:x=y:=by
    rcases List.mem_cons.1 ((h x).1 (List.mem_cons_self ..)) with e | e
    ·exact e
    ·rcases List.mem_cons.1 ((h y).2 (List.mem_cons_self ..)) with e2 | e2
     ·exact e2.symm
     ·have:=m1 x e; have:=l1 y e2; omega
   subst e
   rw [ih m l2 m2 (fun z => ?_)]
   constructor
   ·intro hz
    rcases List.mem_cons.1 ((h z).1 (List.mem_cons_of_mem _ hz)) with e | e
    ·have:=l1 z hz; omega
    ·exact e
   ·intro hz
    rcases List.mem_cons.1 ((h z).2 (List.mem_cons_of_mem _ hz)) with e | e
    ·have:=m1 z hz; omega
    ·exact e
theorem get_bang (zs:List Int) (j:Nat):zs.toArray[j]! = zs.getD j 0:=by simp [List.getD]
theorem compact_sorted {zs:List Int} (h:zs.Pairwise (· <= ·)):(compactI zs).Pairwise (· < ·) /\ ∀ x,x ∈ compactI zs ↔ x ∈ zs:=by
 have hle:∀ i j,i<=j->j < zs.length->zs.getD i 0<=zs.getD j 0:=by
  intro i j hij hj
  by_cases e:i=j
  ·subst e; exact Int.le_refl _
  ·rw [Go.Ab.getD_lt _ _ hj,Go.Ab.getD_lt _ _ (by omega)]
   exact List.pairwise_iff_getElem.1 h i j (by omega) hj (by omega)
 have key:∀ m,m<=zs.length->(Go.Lib.compactUpTo zs.toArray m).Pairwise (· < ·) /\ ∀ x,x ∈ Go.Lib.compactUpTo zs.toArray m ↔ ∃ j,j < m/\zs.getD j 0=x:=by
  intro m
  induction m with
  | zero=>intro _; exact ⟨List.Pairwise.nil,fun x=>by simp [Go.Lib.compactUpTo]⟩
  | succ m ih =>
   intro hm
   obtain ⟨h1,h2⟩:=ih (by omega)
   rw [Go.Lib.compactUpTo_succ]
   by_cases hk:Go.Lib.keeps zs.toArray m=true
   ·rw [if_pos hk,get_bang]
    refine ⟨?_,fun x => ?_⟩
    ·rw [List.pairwise_append]
     refine ⟨h1,List.pairwise_singleton _ _,fun a ha b hb => ?_⟩
     rw [List.mem_singleton] at hb
     subst hb
     obtain ⟨j,hj,rfl⟩:=(h2 a).1 ha
     have a1:=hle j (m - 1) (by omega) (by omega)
     have a2:=hle (m - 1) m (by omega) (by omega)
     have a3:zs.getD m 0 ≠ zs.getD (m - 1) 0:=by
      unfold Go.Lib.keeps at hk
      rw [get_bang,get_bang] at hk
      intro e
      rw [e] at hk
      have:m ≠ 0:=by omega
      simp [this] at hk
     omega
    ·rw [List.mem_append,List.mem_singleton,h2]
     constructor
     ·rintro (⟨j,hj,e⟩ | e)
      ·exact ⟨j,by omega,e⟩
      ·exact ⟨m,by omega,e.symm⟩
     ·rintro ⟨j,hj,e⟩
      by_cases ej:j=m
      ·subst ej; exact .inr e.symm
      ·exact .inl ⟨j,by omega,e⟩
   ·rw [if_neg hk,List.append_nil]
    refine ⟨h1,fun x => ?_⟩
    rw [h2]
    have hm0:m ≠ 0:=by
     intro e; subst e
     exact hk (Go.Lib.keeps_lt_one _ 0 (by omega))
    have he:zs.getD m 0=zs.getD (m - 1) 0:=by
     apply Classical.byContradiction
     intro hne
     apply hk
     unfold Go.Lib.keeps
     rw [get_bang,get_bang]
     exact decide_eq_true (.inr hne)
    constructor
    ·rintro ⟨j,hj,e⟩; exact ⟨j,by omega,e⟩
    ·rintro ⟨j,hj,e⟩
     by_cases ej:j=m
     ·subst ej; exact ⟨j - 1,by omega,by rw [← he]; exact e⟩
     ·exact ⟨j,by omega,e⟩
 obtain ⟨h1,h2⟩:=key zs.length (Nat.le_refl _)
 refine ⟨h1,fun x => ?_⟩
 show x ∈ Go.Lib.compactUpTo zs.toArray zs.length ↔ _
 rw [h2]
 constructor
 ·rintro ⟨j,hj,rfl⟩; exact Go.Ab.getD_mem _ 0 hj
 ·intro hx
  obtain ⟨j,hj,e⟩:=List.getElem_of_mem hx
  exact ⟨j,hj,by rw [Go.Ab.getD_lt _ _ hj]; exact e⟩
theorem sortI_sorted (l:List Int):(sortI l).Pairwise (· <= ·):=by
 have:=List.pairwise_mergeSort (le:=fun x y:Int=>decide (x<=y)) (fun a b c h1 h2=>by simp only [decide_eq_true_eq] at *; omega) (fun a b=>by simp only [Bool.or_eq_true,decide_eq_true_eq]; omega) l
 simpa [sortI] using this
theorem sortI_mem {l:List Int} {x:Int}:x ∈ sortI l ↔ x ∈ l:=(List.mergeSort_perm l _).mem_iff
theorem where_ways {r:Run} (ok:Ok r) {f:Nat} (hf:f < r.found.length):whereP (waysOf r) f=whereOf r (fromsOf r) f:=by
 obtain ⟨h1,h2⟩:=compact_sorted (sortI_sorted (wf (waysOf r) f))
 refine sorted_ext _ _ h1 ?_ fun x => ?_
 ·unfold whereOf whTo
  rw [List.pairwise_map]
  exact ((List.pairwise_lt_range).filter _).imp (fun h=>by omega)
 ·show x ∈ compactI (sortI (wf (waysOf r) f)) ↔ _
  rw [h2,sortI_mem]
  unfold whereOf whTo wf anyF
  rw [List.take_length,← ways_froms ok]
  simp only [List.mem_map,List.mem_filter,List.mem_range,List.any_eq_true,decide_eq_true_eq]
  constructor
  ·rintro ⟨w,hw,rfl⟩
   have:=way_mach ok hw hf
   refine ⟨(w.frm.getD f 0).toNat,⟨by omega,w.frm,⟨w,hw,rfl⟩,by omega⟩,by omega⟩
  ·rintro ⟨m,⟨_,y,⟨w,hw,rfl⟩,e⟩,rfl⟩
   exact ⟨w,hw,e⟩
theorem where_eq (r:Run) (f:Int):whereS r f=whereR r f:=by
 unfold whereS whereR
 rw [open_eq]
 split
 ·rename_i h0
  obtain ⟨ok,his⟩:=rf_zero h0
  simp only [isFound,Go.Sh.within_iff] at his
  exact where_ways ok (by omega)
 ·rfl
end Go.Sh
namespace Go.Sh
theorem sumTo_congr {r:Run} {f g:Nat->Span}:∀ n,n<=r.machines.length->(∀ m,m < n->f m=g m)->sumTo r f n=sumTo r g n:=by
 intro n
 induction n with
 | zero=>intro _ _; rfl
 | succ n ih =>
  intro h1 h2
  rw [sumTo_succ,sumTo_succ,ih (by omega) (fun m hm=>h2 m (by omega)),h2 n (by omega)]
theorem old_eq (r:Run) (p:Int):oldS r p=oldR r p:=by
 unfold oldS oldR
 rw [open_eq]
 split
 ·rename_i h0
  obtain ⟨ok,his⟩:=rf_zero h0
  obtain ⟨a1,a2,_⟩:=plateIs_ok ok his
  rw [← ways_froms ok]
  exact hull_eq (ways_pos h0) fun w hw=>sumTo_congr _ (Nat.le_refl _) fun m hm=>(way_ok ok hw).2 m hm p.toNat (by omega)
 ·rfl
theorem spread_minutes {g h:Nat->Span} {n:Nat} (hn:1<=n/\n<=3) (he:∀ p,p < n->g p=h p) (hs:∀ p,p < n->(h p).lo<=(h p).hi):spread g n=minutes h n:=by
 have h0:=he 0 (by omega)
 have s0:=hs 0 (by omega)
 have:n=1 ∨ n=2 ∨ n=3:=by omega
 rcases this with rfl | rfl | rfl
 ·simp only [spread,minutes,sprTo,minTo,minIn,sprIn,List.range_succ,List.range_zero,List.nil_append,List.foldl_cons,List.foldl_nil,if_true,h0]
  congr 1 <;> omega
 ·have h1:=he 1 (by omega)
  have s1:=hs 1 (by omega)
  simp only [spread,minutes,sprTo,minTo,minIn,sprIn,List.range_succ,List.range_zero,List.nil_append,List.cons_append,List.foldl_cons,List.foldl_nil,if_true,h0,h1]
  simp only [show ¬ (0:Nat)=1 by omega,show ¬ (1:Nat)=0 by omega,if_false]
  congr 1 <;> omega
 ·have h1:=he 1 (by omega)
  have s1:=hs 1 (by omega)
  have h2:=he 2 (by omega)
  have s2:=hs 2 (by omega)
  simp only [spread,minutes,sprTo,minTo,minIn,sprIn,List.range_succ,List.range_zero,List.nil_append,List.cons_append,List.foldl_cons,List.foldl_nil,if_true,h0,h1,h2]
  simp only [show ¬ (0:Nat)=1 by omega,show ¬ (1:Nat)=0 by omega,show ¬ (0:Nat)=2 by omega,show ¬ (2:Nat)=0 by omega,show ¬ (1:Nat)=2 by omega,show ¬ (2:Nat)=1 by omega,if_false]
  congr 1 <;> omega
theorem way_spread {r:Run} (ok:Ok r) {w:WayS} (hw:w ∈ waysOf r) {m:Nat} (hm:m < r.machines.length):spread (w.whn m) r.plates.toNat=minutes (spanOf r w.frm m) r.plates.toNat:=by
 have hp:=ok.plates
 have h:=way_ok ok hw
 exact spread_minutes (by omega) (fun p hlt=>h.2 m hm p (by omega)) (fun p hlt=>(canBe_iff ok).1 h.1 m hm p (by omega))
theorem way_mix {r:Run} (ok:Ok r) {w:WayS} (hw:w ∈ waysOf r):mixF r w=mixL r w.frm:=sumTo_congr _ (Nat.le_refl _) fun _ hm=>way_spread ok hw hm
theorem minutes_le {h:Nat->Span} {n:Nat} (hn:1<=n/\n<=3) (hs:∀ p,p < n->(h p).lo<=(h p).hi):(minutes h n).lo<=(minutes h n).hi:=by
 have s0:=hs 0 (by omega)
 have:n=1 ∨ n=2 ∨ n=3:=by omega
 rcases this with rfl | rfl | rfl
 ·simp only [minutes,minTo,minIn,List.range_succ,List.range_zero,List.nil_append,List.foldl_cons,List.foldl_nil,if_true]
  omega
 ·have s1:=hs 1 (by omega)
  simp only [minutes,minTo,minIn,List.range_succ,List.range_zero,List.nil_append,List.cons_append,List.foldl_cons,List.foldl_nil,if_true]
  simp only [show ¬ (0:Nat)=1 by omega,show ¬ (1:Nat)=0 by omega,if_false]
  omega
 ·have s1:=hs 1 (by omega)
  have s2:=hs 2 (by omega)
  simp only [minutes,minTo,minIn,List.range_succ,List.range_zero,List.nil_append,List.cons_append,List.foldl_cons,List.foldl_nil,if_true]
  simp only [show ¬ (0:Nat)=1 by omega,show ¬ (1:Nat)=0 by omega,show ¬ (0:Nat)=2 by omega,show ¬ (2:Nat)=0 by omega,show ¬ (1:Nat)=2 by omega,show ¬ (2:Nat)=1 by omega,if_false]
  omega
theorem mixed_eq (r:Run) (m:Int):mixedS r m=mixedR r m:=by
 unfold mixedS mixedR
 rw [open_eq]
 split
 ·rename_i h0
  obtain ⟨ok,his⟩:=rf_zero h0
  have hm:=machIs_ok his
  have hpl:=ok.plates
  have hw:∀ w,w ∈ waysOf r->spread (w.whn m.toNat) r.plates.toNat=minutes (spanOf r w.frm m.toNat) r.plates.toNat/\(minutes (spanOf r w.frm m.toNat) r.plates.toNat).lo<=(minutes (spanOf r w.frm m.toNat) r.plates.toNat).hi:=by
   intro w h
   refine ⟨way_spread ok h (by omega),minutes_le (by omega) fun p hp => ?_⟩
   exact (canBe_iff ok).1 (way_ok ok h).1 _ (by omega) p (by omega)
  have hsu:suTo r (fromsOf r) m.toNat (fromsOf r).length=(waysOf r).all (mxSo r m.toNat):=by
   rw [suTo,List.take_length,← ways_froms ok,List.all_map,Bool.eq_iff_iff,List.all_eq_true,List.all_eq_true]
   constructor
   ·intro h w h1; have:=h w h1; rw [mxSo,(hw w h1).1]; exact this
   ·intro h w h1; have:=h w h1; rw [mxSo,(hw w h1).1] at this; exact this
  have hnv:nvTo r (fromsOf r) m.toNat (fromsOf r).length=(waysOf r).all (mxNot r m.toNat):=by
   rw [nvTo,List.take_length,← ways_froms ok,List.all_map,Bool.eq_iff_iff,List.all_eq_true,List.all_eq_true]
   constructor
   ·intro h w h1
    have h2:=h w h1
    have h3:=(hw w h1).2
    simp only [Function.comp_apply,decide_eq_true_eq] at h2
    rw [mxNot,mxSo,(hw w h1).1]
    simp only [Bool.and_eq_true,Bool.not_eq_true',decide_eq_true_eq,decide_eq_false_iff_not]
    omega
   ·intro h w h1
    have h2:=h w h1
    rw [mxNot,mxSo,(hw w h1).1] at h2
    simp only [Bool.and_eq_true] at h2
    exact h2.2
  rw [cnt_all,cnt_all,hsu,hnv]
  unfold known3
  by_cases c1:(waysOf r).countP (mxSo r m.toNat)=(waysOf r).length
  ·rw [if_pos (by rw [c1]),if_pos (by rw [List.all_eq_true]; exact List.countP_eq_length.1 c1)]
  ·rw [if_neg (by omega),if_neg (fun h=>c1 (List.countP_eq_length.2 (List.all_eq_true.1 h)))]
   by_cases c2:(waysOf r).countP (mxNot r m.toNat)=(waysOf r).length
   ·rw [if_pos (by rw [c2]),if_pos (by rw [List.all_eq_true]; exact List.countP_eq_length.1 c2)]
   ·rw [if_neg (by omega),if_neg (fun h=>c2 (List.countP_eq_length.2 (List.all_eq_true.1 h)))]
 ·rfl
end Go.Sh
namespace Go.Sh
def rated (t:Int) (m:Mach):Mach:=⟨m.changes,Go.Ab.wr (m.rate * t)⟩
def ratedR (r:Run) (t:Int):Run:=⟨r.plates,r.last,r.machines.map (rated t),r.found⟩
theorem spanTo_narrow (r:Run) (l:List Int) (m p:Nat):∀ n,(chg (mach r m) p).lo<=(spanTo r l m p n).lo/\(spanTo r l m p n).hi<=(chg (mach r m) p).hi:=by
 intro n
 induction n with
 | zero=>exact ⟨Int.le_refl _,Int.le_refl _⟩
 | succ n ih =>
  rw [spanTo_succ]
  unfold spanStep
  split
  ·split
   ·exact ⟨ih.1,Int.le_trans (Int.min_le_left _ _) ih.2⟩
   ·split
    ·exact ⟨Int.le_trans ih.1 (Int.le_max_left _ _),ih.2⟩
    ·exact ih
  ·exact ih
def hb (s:Span):Prop:=0<=s.lo/\s.lo<=s.hi/\s.hi<=30
theorem way_hb {r:Run} (ok:Ok r) {w:WayS} (hw:w ∈ waysOf r) {m p:Nat} (hm:m < r.machines.length) (hp:(p:Int) < r.plates):hb (w.whn m p):=by
 have h:=way_ok ok hw
 have h1:=ok.mach m hm
 have h2:=ok.span m hm p (by omega)
 have h3:=spanTo_narrow r w.frm m p w.frm.length
 have h4:=(canBe_iff ok).1 h.1 m hm p hp
 have h5:=ok.last
 rw [h.2 m hm p hp]
 unfold spanOf at h4 ⊢
 exact ⟨by omega,h4,by omega⟩
theorem sum_hb {r:Run} (ok:Ok r) {f:Nat->Span} (hf:∀ m,m < r.machines.length->hb (f m)):∀ n,n<=r.machines.length->0<=(sumTo r f n).lo/\(sumTo r f n).lo<=(sumTo r f n).hi/\(sumTo r f n).hi<=270 * n:=by
 intro n
 induction n with
 | zero=>intro _; simp [sumTo]
 | succ n ih =>
  intro hn
  have h1:=ih (by omega)
  have h2:=(ok.mach n (by omega)).2
  have h3:=hf n (by omega)
  rw [sumTo_succ]
  have a1:=Int.mul_nonneg h2.1 h3.1
  have a2:=Int.mul_le_mul_of_nonneg_left h3.2.1 h2.1
  have a3:(mach r n).rate * (f n).hi<=9 * 30:=Int.mul_le_mul h2.2 h3.2.2 (Int.le_trans h3.1 h3.2.1) (by decide)
  simp only
  omega
theorem hull_in {l:List WayS} {F:WayS->Span} {k:Int} (hl:0 < l.length) (h:∀ w,w ∈ l->0<=(F w).lo/\(F w).lo<=(F w).hi/\(F w).hi<=k):0<=(hullOf l F).lo/\(hullOf l F).lo<=(hullOf l F).hi/\(hullOf l F).hi<=k:=by
 have:∀ n,n<=l.length->0<=(hullTo l F n).lo/\(hullTo l F n).lo<=(hullTo l F n).hi/\(hullTo l F n).hi<=k:=by
  intro n
  induction n with
  | zero=>intro _; exact h _ (Go.Ab.getD_mem _ default hl)
  | succ n ih =>
   intro hn
   have h1:=ih (by omega)
   have h2:=h _ (Go.Ab.getD_mem l default (show n < l.length by omega))
   rw [hullTo_succ]
   simp only [hull2]
   omega
 exact this _ (Nat.le_refl _)
theorem minutes_hb {h:Nat->Span} {n:Nat} (hn:1<=n/\n<=3) (hs:∀ p,p < n->hb (h p)):hb (minutes h n):=by
 have hle:=minutes_le hn fun p hp=>(hs p hp).2.1
 have s0:=hs 0 (by omega)
 have:n=1 ∨ n=2 ∨ n=3:=by omega
 unfold hb at *
 rcases this with rfl | rfl | rfl
 ·refine ⟨?_,hle,?_⟩ <;> (simp only [minutes,minTo,minIn,List.range_succ,List.range_zero,List.nil_append,List.foldl_cons,List.foldl_nil,if_true]; omega)
 ·have s1:=hs 1 (by omega)
  refine ⟨?_,hle,?_⟩ <;> (simp only [minutes,minTo,minIn,List.range_succ,List.range_zero,List.nil_append,List.cons_append,List.foldl_cons,List.foldl_nil,if_true]; simp only [show ¬ (0:Nat)=1 by omega,show ¬ (1:Nat)=0 by omega,if_false]; omega)
 ·have s1:=hs 1 (by omega)
  have s2:=hs 2 (by omega)
  refine ⟨?_,hle,?_⟩ <;> (simp only [minutes,minTo,minIn,List.range_succ,List.range_zero,List.nil_append,List.cons_append,List.foldl_cons,List.foldl_nil,if_true]; simp only [show ¬ (0:Nat)=1 by omega,show ¬ (1:Nat)=0 by omega,show ¬ (0:Nat)=2 by omega,show ¬ (2:Nat)=0 by omega,show ¬ (1:Nat)=2 by omega,show ¬ (2:Nat)=1 by omega,if_false]; omega)
structure RatesF (r:Run) (t p:Int):Prop where
 ok:Ok r
 tt:0<=t/\t<=9
 e1:openE r (isPlate r p)=0
 e2:openE (ratedR r t) (isPlate (ratedR r t) p)=0
 e3:openE r true=0
 e4:openE (ratedR r t) true=0
 old:0<=(oldS r p).lo/\(oldS r p).lo<=(oldS r p).hi/\(oldS r p).hi<=810
 mix:0<=(mixesS r).lo/\(mixesS r).lo<=(mixesS r).hi/\(mixesS r).hi<=810
 old2:oldS (ratedR r t) p=⟨(oldS r p).lo * t,(oldS r p).hi * t⟩
 mix2:mixesS (ratedR r t)=⟨(mixesS r).lo * t,(mixesS r).hi * t⟩
end Go.Sh
namespace Go.Sh
theorem spanTo_lo (r:Run) (l:List Int) (m p:Nat) (n:Int):∀ k,(spanTo r l m p k).lo<=n ↔ (chg (mach r m) p).lo<=n /\ ∀ i,i < k->l.getD i 0=(m:Int)->(fnd r i).new.getD p 0=0->(fnd r i).minute + 1<=n:=by
 intro k
 induction k with
 | zero=>exact ⟨fun h=>⟨h,fun i hi=>by omega⟩,fun h=>h.1⟩
 | succ k ih =>
  rw [spanTo_succ]
  have step:(spanStep r l m p (spanTo r l m p k) k).lo<=n ↔ (spanTo r l m p k).lo<=n/\(l.getD k 0=(m:Int)->(fnd r k).new.getD p 0=0->(fnd r k).minute + 1<=n):=by
   unfold spanStep
   by_cases h1:l.getD k 0=(m:Int)
   ·rw [if_pos h1]
    by_cases h2:(fnd r k).new.getD p 0=1
    ·rw [if_pos h2]
     exact ⟨fun h=>⟨h,fun _ h3=>by omega⟩,fun h=>h.1⟩
    ·rw [if_neg h2]
     by_cases h3:(fnd r k).new.getD p 0=0
     ·rw [if_pos h3]
      show max _ _<=n ↔ _
      rw [Int.max_le]
      exact ⟨fun h=>⟨h.1,fun _ _=>h.2⟩,fun h=>⟨h.1,h.2 h1 h3⟩⟩
     ·rw [if_neg h3]
      exact ⟨fun h=>⟨h,fun _ h4=>absurd h4 h3⟩,fun h=>h.1⟩
   ·rw [if_neg h1]
    exact ⟨fun h=>⟨h,fun h2=>absurd h2 h1⟩,fun h=>h.1⟩
  rw [step,ih]
  constructor
  ·rintro ⟨⟨h1,h2⟩,h3⟩
   refine ⟨h1,fun i hi => ?_⟩
   by_cases e:i=k
   ·subst e; exact h3
   ·exact h2 i (by omega)
  ·rintro ⟨h1,h2⟩
   exact ⟨⟨h1,fun i hi=>h2 i (by omega)⟩,h2 k (by omega)⟩
theorem spanTo_hi (r:Run) (l:List Int) (m p:Nat) (n:Int):∀ k,n<=(spanTo r l m p k).hi ↔ n<=(chg (mach r m) p).hi /\ ∀ i,i < k->l.getD i 0=(m:Int)->(fnd r i).new.getD p 0=1->n<=(fnd r i).minute:=by
 intro k
 induction k with
 | zero=>exact ⟨fun h=>⟨h,fun i hi=>by omega⟩,fun h=>h.1⟩
 | succ k ih =>
  rw [spanTo_succ]
  have step:n<=(spanStep r l m p (spanTo r l m p k) k).hi ↔ n<=(spanTo r l m p k).hi/\(l.getD k 0=(m:Int)->(fnd r k).new.getD p 0=1->n<=(fnd r k).minute):=by
   unfold spanStep
   by_cases h1:l.getD k 0=(m:Int)
   ·rw [if_pos h1]
    by_cases h2:(fnd r k).new.getD p 0=1
    ·rw [if_pos h2]
     show n<=min _ _ ↔ _
     rw [Int.le_min]
     exact ⟨fun h=>⟨h.1,fun _ _=>h.2⟩,fun h=>⟨h.1,h.2 h1 h2⟩⟩
    ·rw [if_neg h2]
     by_cases h3:(fnd r k).new.getD p 0=0
     ·rw [if_pos h3]
      exact ⟨fun h=>⟨h,fun _ h4=>absurd h4 h2⟩,fun h=>h.1⟩
     ·rw [if_neg h3]
      exact ⟨fun h=>⟨h,fun _ h4=>absurd h4 h2⟩,fun h=>h.1⟩
   ·rw [if_neg h1]
    exact ⟨fun h=>⟨h,fun h2=>absurd h2 h1⟩,fun h=>h.1⟩
  rw [step,ih]
  constructor
  ·rintro ⟨⟨h1,h2⟩,h3⟩
   refine ⟨h1,fun i hi => ?_⟩
   by_cases e:i=k
   ·subst e; exact h3
   ·exact h2 i (by omega)
  ·rintro ⟨h1,h2⟩
   exact ⟨⟨h1,fun i hi=>h2 i (by omega)⟩,h2 k (by omega)⟩
theorem spanOf_lo {r:Run} {l:List Int} {m p:Nat} {n:Int}:(spanOf r l m p).lo<=n ↔ (chg (mach r m) p).lo<=n /\ ∀ i,i < l.length->l.getD i 0=(m:Int)->(fnd r i).new.getD p 0=0->(fnd r i).minute + 1<=n:=spanTo_lo r l m p n l.length
theorem spanOf_hi {r:Run} {l:List Int} {m p:Nat} {n:Int}:n<=(spanOf r l m p).hi ↔ n<=(chg (mach r m) p).hi /\ ∀ i,i < l.length->l.getD i 0=(m:Int)->(fnd r i).new.getD p 0=1->n<=(fnd r i).minute:=spanTo_hi r l m p n l.length
theorem mem_chFrom {r:Run}:∀ k (l:List Int),l ∈ chFrom r [] k ↔ l.length=k /\ ∀ i,i < k->l.getD i 0 ∈ (fnd r i).frm:=by
 intro k
 induction k with
 | zero =>
  intro l
  simp only [chFrom,List.mem_singleton]
  constructor
  ·rintro rfl; exact ⟨rfl,fun i hi=>by omega⟩
  ·rintro ⟨h,_⟩; exact List.length_eq_zero_iff.1 h
 | succ k ih =>
  intro l
  simp only [chFrom,List.mem_flatMap,List.mem_map]
  constructor
  ·rintro ⟨a,ha,m,hm,rfl⟩
   obtain ⟨h1,h2⟩:=(ih a).1 ha
   refine ⟨by simp [h1],fun i hi => ?_⟩
   rw [Go.Ab.getD_append]
   split
   ·exact h2 i (by omega)
   ·have:i=a.length:=by omega
    subst this
    rw [Nat.sub_self]; exact hm
  ·rintro ⟨h1,h2⟩
   rcases List.eq_nil_or_concat l with rfl | ⟨a,x,rfl⟩
   ·simp at h1
   ·rw [List.concat_eq_append] at h1 h2 ⊢
    have hl:a.length=k:=by simpa using h1
    refine ⟨a,(ih a).2 ⟨hl,fun i hi => ?_⟩,x,?_,rfl⟩
    ·have:=h2 i (by omega)
     rwa [Go.Ab.getD_append,if_pos (by omega)] at this
    ·have:=h2 k (by omega)
     rw [Go.Ab.getD_append,if_neg (by omega),hl,Nat.sub_self] at this
     rw [hl]; exact this
theorem mem_froms {r:Run} {l:List Int}:l ∈ fromsOf r ↔ (l.length=r.found.length /\ ∀ i,i < r.found.length->l.getD i 0 ∈ (fnd r i).frm)/\canBe r l=true:=by
 rw [fromsOf,List.mem_filter,choices_from,mem_chFrom]
theorem froms_in {r:Run} (ok:Ok r) {l:List Int} (h:l ∈ fromsOf r) {i:Nat} (hi:i < r.found.length):0<=l.getD i 0/\l.getD i 0 < r.machines.length:=frm_range ok hi (fromsOf_frm h hi)
theorem froms_le {r:Run} (ok:Ok r) {l:List Int} (h:l ∈ fromsOf r) {m p:Nat} (hm:m < r.machines.length) (hp:(p:Int) < r.plates):(spanOf r l m p).lo<=(spanOf r l m p).hi:=(canBe_iff ok).1 (mem_froms.1 h).2 m hm p hp
theorem spanOf_narrow (r:Run) (l:List Int) (m p:Nat):(chg (mach r m) p).lo<=(spanOf r l m p).lo/\(spanOf r l m p).hi<=(chg (mach r m) p).hi :=
 ⟨(spanOf_lo.1 (Int.le_refl _)).1,(spanOf_hi.1 (Int.le_refl _)).1⟩
theorem rhull_spec {l:List (List Int)} (F:List Int->Span) (h:0 < l.length):(∀ x,x ∈ l->(rhull l F).lo<=(F x).lo/\(F x).hi<=(rhull l F).hi)/\(∃ x,x ∈ l/\(rhull l F).lo=(F x).lo) /\ ∃ x,x ∈ l/\(rhull l F).hi=(F x).hi:=by
 have:∀ n,n<=l.length->(∀ i,i < n->(rhullTo l F n).lo<=(F (l.getD i [])).lo/\(F (l.getD i [])).hi<=(rhullTo l F n).hi)/\(∃ x,x ∈ l/\(rhullTo l F n).lo=(F x).lo) /\ ∃ x,x ∈ l/\(rhullTo l F n).hi=(F x).hi:=by
  intro n
  induction n with
  | zero=>intro _; exact ⟨fun i hi=>by omega,⟨_,Go.Ab.getD_mem l [] h,rfl⟩,⟨_,Go.Ab.getD_mem l [] h,rfl⟩⟩
  | succ n ih =>
   intro hn
   obtain ⟨h1,⟨x,hx,ex⟩,y,hy,ey⟩:=ih (by omega)
   have hm:=Go.Ab.getD_mem l [] (show n < l.length by omega)
   rw [rhullTo_succ]
   simp only [hull2]
   refine ⟨fun i hi => ?_,?_,?_⟩
   ·by_cases e:i=n
    ·subst e; omega
    ·have:=h1 i (by omega); omega
   ·by_cases c:(rhullTo l F n).lo<=(F (l.getD n [])).lo
    ·exact ⟨x,hx,by omega⟩
    ·exact ⟨_,hm,by omega⟩
   ·by_cases c:(F (l.getD n [])).hi<=(rhullTo l F n).hi
    ·exact ⟨y,hy,by omega⟩
    ·exact ⟨_,hm,by omega⟩
 obtain ⟨h1,h2,h3⟩:=this _ (Nat.le_refl _)
 refine ⟨fun x hx => ?_,h2,h3⟩
 obtain ⟨i,hi,rfl⟩:=List.getElem_of_mem hx
 have:=h1 i hi
 rw [Go.Ab.getD_lt _ _ hi] at this
 exact this
structure One (r:Run):Prop where
 ok:Ok r
 zero:∀ is,is=true->rfE r is=0
 pos:0 < (fromsOf r).length
theorem one_ex {r:Run} (h:One r):∃ x,x ∈ fromsOf r:=List.exists_mem_of_length_pos h.pos
theorem one_of {r:Run} (ok:okRun r=true) {x:List Int} (h:x ∈ fromsOf r):One r:=by
 have hp:=List.length_pos_of_mem h
 exact ⟨ok_of ok,fun is hi=>by rw [rfE,if_pos (check_zero.2 ok),if_pos hi,if_neg (by omega)],hp⟩
theorem one_known {r:Run} (h:known6 r=true):One r:=by
 simp only [known6,ready,Bool.and_eq_true,decide_eq_true_eq] at h
 have ok:=check_zero.1 h.1.2
 have:0 < (fromsOf r).length:=by have:=h.2; simp only [isOne,decide_eq_true_eq] at this; omega
 obtain ⟨x,hx⟩:=List.exists_mem_of_length_pos this
 exact one_of ok hx
theorem ready_ok {r:Run} (h:ready r=true):okRun r=true:=by
 simp only [ready,Bool.and_eq_true,decide_eq_true_eq] at h
 exact check_zero.1 h.2
theorem when_val {r:Run} (h:One r) {m p:Int} (hi:whenIs r m p=true):whenS r m p=rhull (fromsOf r) (fun l=>spanOf r l m.toNat p.toNat)/\openE r (whenIs r m p)=0:=by
 rw [when_eq,open_eq,whenR,h.zero _ hi]; exact ⟨rfl,rfl⟩
theorem few_val {r:Run} (h:One r):fewP r=fewTo r (fromsOf r) (fromsOf r).length/\openE r true=0:=by
 rw [few_eq,open_eq,fewR,h.zero _ rfl]; exact ⟨rfl,rfl⟩
theorem few_spec {r:Run} (h:One r):(∀ x,x ∈ fromsOf r->fewP r<=usedTo x r.machines.length)/\0<=fewP r/\fewP r<=r.machines.length /\ ∃ x,x ∈ fromsOf r/\fewP r=usedTo x r.machines.length:=by
 rw [(few_val h).1]
 have hu:∀ x,(usedTo x r.machines.length:Int)<=r.machines.length:=fun x=>by have:=usedTo_le x r.machines.length; omega
 have:∀ n,n<=(fromsOf r).length->(∀ i,i < n->fewTo r (fromsOf r) n<=usedTo ((fromsOf r).getD i []) r.machines.length)/\0<=fewTo r (fromsOf r) n/\fewTo r (fromsOf r) n<=r.machines.length/\(n=0 ∨ ∃ x,x ∈ fromsOf r/\fewTo r (fromsOf r) n=usedTo x r.machines.length):=by
  intro n
  induction n with
  | zero=>intro _; exact ⟨fun i hi=>by omega,Int.natCast_nonneg _,Int.le_refl _,.inl rfl⟩
  | succ n ih =>
   intro hn
   obtain ⟨h1,h2,h3,h4⟩:=ih (by omega)
   have hm:=Go.Ab.getD_mem (fromsOf r) [] (show n < (fromsOf r).length by omega)
   have hb:=hu ((fromsOf r).getD n [])
   rw [fewTo_succ]
   refine ⟨fun i hi => ?_,by omega,by omega,.inr ?_⟩
   ·by_cases e:i=n
    ·subst e; omega
    ·have:=h1 i (by omega); omega
   ·by_cases c:fewTo r (fromsOf r) n < usedTo ((fromsOf r).getD n []) r.machines.length
    ·rcases h4 with h4 | ⟨x,hx,e⟩
     ·subst h4
      have:fewTo r (fromsOf r) 0=r.machines.length:=rfl
      omega
     ·exact ⟨x,hx,by omega⟩
    ·exact ⟨_,hm,by omega⟩
 obtain ⟨h1,h2,h3,h4⟩:=this _ (Nat.le_refl _)
 have hp:=h.pos
 refine ⟨fun x hx => ?_,h2,h3,?_⟩
 ·obtain ⟨i,hi,rfl⟩:=List.getElem_of_mem hx
  have:=h1 i hi
  rw [Go.Ab.getD_lt _ _ hi] at this
  exact this
 ·rcases h4 with h4 | h4
  ·omega
  ·exact h4
theorem usedTo_mono {x y:List Int} {n:Nat} (h:∀ v,v ∈ x->v ∈ y):usedTo x n<=usedTo y n:=by
 unfold usedTo
 refine List.countP_mono_left fun m _ hm => ?_
 exact isIn_mem.2 (h _ (isIn_mem.1 hm))
end Go.Sh
namespace Go.Sh
structure Tld where
 when:List Span
 old:List Span
 whr:List (List Int)
 mixed:List Int
 mixes:Span
 fewest:Int
 deriving DecidableEq,Inhabited
def wAt (r:Run) (i:Nat):Span:=whenS r ((i / r.plates.toNat:Nat):Int) ((i % r.plates.toNat:Nat):Int)
def tWhen (r:Run) (n:Nat):List Span:=(List.range n).map (wAt r)
def tOld (r:Run) (n:Nat):List Span:=(List.range n).map fun p:Nat=>oldS r (p:Int)
def tWhr (r:Run) (n:Nat):List (List Int):=(List.range n).map fun i:Nat=>whereS r (i:Int)
def tMix (r:Run) (n:Nat):List Int:=(List.range n).map fun m:Nat=>mixedS r (m:Int)
def toldOf (r:Run):Tld:=⟨tWhen r (r.machines.length * r.plates.toNat),tOld r r.plates.toNat,tWhr r r.found.length,tMix r r.machines.length,mixesS r,fewP r⟩
theorem mapRange_get {α:Type} (f:Nat->α) (d:α) {n i:Nat} (h:i < n):((List.range n).map f).getD i d=f i:=by
 rw [Go.Ab.getD_lt _ _ (by simpa using h)]; simp
theorem tWhen_get (r:Run) {n i:Nat} (h:i < n):(tWhen r n).getD i default=wAt r i:=mapRange_get _ _ h
theorem tOld_get (r:Run) {n i:Nat} (h:i < n):(tOld r n).getD i default=oldS r (i:Int):=mapRange_get _ _ h
theorem tWhr_get (r:Run) {n i:Nat} (h:i < n):(tWhr r n).getD i []=whereS r (i:Int):=mapRange_get _ _ h
theorem tMix_get (r:Run) {n i:Nat} (h:i < n):(tMix r n).getD i 0=mixedS r (i:Int):=mapRange_get _ _ h
theorem tWhen_len (r:Run) (n:Nat):(tWhen r n).length=n:=by simp [tWhen]
theorem tOld_len (r:Run) (n:Nat):(tOld r n).length=n:=by simp [tOld]
theorem tWhr_len (r:Run) (n:Nat):(tWhr r n).length=n:=by simp [tWhr]
theorem tMix_len (r:Run) (n:Nat):(tMix r n).length=n:=by simp [tMix]
theorem idx_div {P m k:Nat} (hk:k < P):(m * P + k) / P=m/\(m * P + k) % P=k:=by
 have hp:0 < P:=by omega
 rw [Nat.mul_comm]
 exact ⟨by rw [Nat.mul_add_div hp,Nat.div_eq_of_lt hk,Nat.add_zero],by rw [Nat.mul_add_mod,Nat.mod_eq_of_lt hk]⟩
theorem wAt_idx (r:Run) {m k:Nat} (hk:(k:Int) < r.plates):wAt r (m * r.plates.toNat + k)=whenS r (m:Int) (k:Int):=by
 have hk2:k < r.plates.toNat:=by omega
 unfold wAt
 rw [(idx_div hk2).1,(idx_div hk2).2]
theorem idx_split {P M i:Nat} (hP:0 < P) (h:i < M * P):i / P < M/\i % P < P:=⟨Nat.div_lt_of_lt_mul (by rw [Nat.mul_comm]; exact h),Nat.mod_lt _ hP⟩
theorem whenIs_nat {r:Run} (ok:Ok r) {m p:Nat} (hm:m < r.machines.length) (hp:(p:Int) < r.plates):whenIs r (m:Int) (p:Int)=true:=by
 have:=ok.plates
 simp only [whenIs,isMachine,isPlate,Bool.and_eq_true,within_iff,plates_wr ok]
 omega
theorem isMachine_nat {r:Run} {m:Nat} (hm:m < r.machines.length):isMachine r (m:Int)=true:=by
 simp only [isMachine,within_iff]; omega
theorem isFound_nat {r:Run} {i:Nat} (hi:i < r.found.length):isFound r (i:Int)=true:=by
 simp only [isFound,within_iff]; omega
theorem isPlate_nat {r:Run} (ok:Ok r) {p:Nat} (hp:(p:Int) < r.plates):isPlate r (p:Int)=true:=by
 have:=ok.plates
 simp only [isPlate,within_iff,plates_wr ok]; omega
theorem one_open {r:Run} (h:One r) {is:Bool} (hi:is=true):openE r is=0:=by rw [open_eq]; exact h.zero _ hi
theorem when_in {r:Run} (h:One r) {m p:Nat} (hm:m < r.machines.length) (hp:(p:Int) < r.plates):inside (whenS r m p) (chg (mach r m) p)=true:=by
 have hi:=whenIs_nat h.ok hm hp
 obtain ⟨s1,⟨x,hx,ex⟩,y,hy,ey⟩:=rhull_spec (fun l=>spanOf r l m p) h.pos
 have hw:=(when_val h hi).1
 simp only [Int.toNat_natCast] at hw
 rw [hw]
 have h1:=spanOf_narrow r x m p
 have h2:=spanOf_narrow r y m p
 have h3:=froms_le h.ok hx hm hp
 have h4:=s1 x hx
 simp only [inside,Bool.and_eq_true,decide_eq_true_eq]
 try simp only at ex ey h4
 omega
theorem old_val {r:Run} (h:One r) {p:Nat} (hp:(p:Int) < r.plates):oldS r (p:Int)=rhull (fromsOf r) (oldL r p):=by
 rw [old_eq,oldR,if_pos (h.zero _ (isPlate_nat h.ok hp)),Int.toNat_natCast]
theorem mixes_val {r:Run} (h:One r):mixesS r=rhull (fromsOf r) (mixL r):=by
 have hw:0 < (waysOf r).length:=by rw [ways_len h.ok]; exact h.pos
 rw [mixesS,if_pos (one_open h rfl),hull_eq (G:=mixL r) hw (fun w hw=>way_mix h.ok hw),ways_froms h.ok]
theorem mixed_val {r:Run} (h:One r) {m:Nat} (hm:m < r.machines.length):mixedS r (m:Int)=if (∀ x,x ∈ fromsOf r->0 < (minutes (spanOf r x m) r.plates.toNat).lo) then 1 else if (∀ x,x ∈ fromsOf r->(minutes (spanOf r x m) r.plates.toNat).hi=0) then 2 else 3:=by
 rw [mixed_eq,mixedR,if_pos (h.zero _ (isMachine_nat hm)),Int.toNat_natCast]
 have e1:suTo r (fromsOf r) m (fromsOf r).length=true ↔ ∀ x,x ∈ fromsOf r->0 < (minutes (spanOf r x m) r.plates.toNat).lo:=by
  rw [suTo,List.take_length,List.all_eq_true]; simp only [decide_eq_true_eq,gt_iff_lt]
 have e2:nvTo r (fromsOf r) m (fromsOf r).length=true ↔ ∀ x,x ∈ fromsOf r->(minutes (spanOf r x m) r.plates.toNat).hi=0:=by
  rw [nvTo,List.take_length,List.all_eq_true]; simp only [decide_eq_true_eq]
 by_cases c1:∀ x,x ∈ fromsOf r->0 < (minutes (spanOf r x m) r.plates.toNat).lo
 ·rw [if_pos (e1.2 c1),if_pos c1]
 ·rw [if_neg (fun hh=>c1 (e1.1 hh)),if_neg c1]
  by_cases c2:∀ x,x ∈ fromsOf r->(minutes (spanOf r x m) r.plates.toNat).hi=0
  ·rw [if_pos (e2.2 c2),if_pos c2]
  ·rw [if_neg (fun hh=>c2 (e2.1 hh)),if_neg c2]
theorem mixed_range {r:Run} (h:One r) {m:Nat} (hm:m < r.machines.length):within (mixedS r (m:Int)) 1 3=true:=by
 rw [mixed_val h hm,within_iff]
 split
 ·omega
 ·split <;> omega
theorem where_val {r:Run} (h:One r) {i:Nat} (hi:i < r.found.length):whereS r (i:Int)=whereOf r (fromsOf r) i:=by
 rw [where_eq,whereR,if_pos (h.zero _ (isFound_nat hi)),Int.toNat_natCast]
theorem mem_where {r:Run} {l:List (List Int)} {i:Nat} {v:Int}:v ∈ whereOf r l i ↔ ∃ m:Nat,m < r.machines.length/\v=(m:Int) /\ ∃ x,x ∈ l/\x.getD i 0=(m:Int):=by
 unfold whereOf whTo anyF
 simp only [List.mem_map,List.mem_filter,List.mem_range,List.take_length,List.any_eq_true,decide_eq_true_eq]
 constructor
 ·rintro ⟨m,⟨h1,x,h2,h3⟩,rfl⟩; exact ⟨m,h1,rfl,x,h2,h3⟩
 ·rintro ⟨m,h1,rfl,x,h2,h3⟩; exact ⟨m,⟨h1,x,h2,h3⟩,rfl⟩
theorem mem_whereS {r:Run} (h:One r) {i:Nat} (hi:i < r.found.length) {v:Int}:v ∈ whereS r (i:Int) ↔ ∃ x,x ∈ fromsOf r/\x.getD i 0=v:=by
 rw [where_val h hi,mem_where]
 constructor
 ·rintro ⟨m,h1,rfl,x,h2,h3⟩; exact ⟨x,h2,h3⟩
 ·rintro ⟨x,h2,rfl⟩
  have:=froms_in h.ok h2 hi
  exact ⟨(x.getD i 0).toNat,by omega,by omega,x,h2,by omega⟩
theorem rising_of {l:List Int} {lo hi:Int} (h1:∀ x,x ∈ l->lo<=x/\x<=hi) (h2:l.Pairwise (· < ·)):rising l lo hi=true:=by
 unfold rising
 rw [List.all_eq_true]
 intro i hi
 have hi:=List.mem_range.1 hi
 unfold risAt
 rw [Bool.and_eq_true,within_iff]
 refine ⟨h1 _ (Go.Ab.getD_mem _ _ hi),?_⟩
 simp only [Bool.or_eq_true,Bool.not_eq_true',decide_eq_false_iff_not]
 by_cases e:i=0
 ·left; omega
 ·right
  have:=List.pairwise_iff_getElem.1 h2 (i - 1) i (by omega) hi (by omega)
  rw [Go.Ab.getD_lt _ _ hi,Go.Ab.getD_lt _ _ (by omega)]
  omega
theorem where_rising {r:Run} (l:List (List Int)) (i:Nat):rising (whereOf r l i) 0 ((r.machines.length:Int) - 1)=true:=by
 refine rising_of (fun x hx => ?_) ?_
 ·obtain ⟨m,h1,rfl,_⟩:=mem_where.1 hx; omega
 ·unfold whereOf whTo
  rw [List.pairwise_map]
  exact ((List.pairwise_lt_range (n:=r.machines.length)).filter _).imp fun h=>by omega
theorem where_facts {r:Run} (h:One r) {i:Nat} (hi:i < r.found.length):(whereS r (i:Int)).length ≠ 0/\(whereS r (i:Int)).length<=3/\rising (whereS r (i:Int)) 0 ((r.machines.length:Int) - 1)=true:=by
 have hr:rising (whereS r (i:Int)) 0 ((r.machines.length:Int) - 1)=true:=by rw [where_val h hi]; exact where_rising _ _
 refine ⟨?_,?_,hr⟩
 ·obtain ⟨x,hx⟩:=one_ex h
  have:=(mem_whereS h hi).2 ⟨x,hx,rfl⟩
  intro e
  rw [List.length_eq_zero_iff.1 e] at this
  cases this
 ·have:=rising_len hr
  have:=h.ok.machines
  omega
theorem old_in {r:Run} (h:One r) {p:Nat} (hp:(p:Int) < r.plates):0<=(oldS r (p:Int)).lo/\(oldS r (p:Int)).lo<=(oldS r (p:Int)).hi/\(oldS r (p:Int)).hi<=810:=by
 have hw:0 < (waysOf r).length:=by rw [ways_len h.ok]; exact h.pos
 rw [oldS,if_pos (one_open h (isPlate_nat h.ok hp)),Int.toNat_natCast]
 refine hull_in hw fun w hw => ?_
 have:=sum_hb h.ok (f:=fun m=>w.whn m p) (fun m hm=>way_hb h.ok hw hm hp) _ (Nat.le_refl _)
 have:=h.ok.machines
 show 0<=(sumTo r _ _).lo/\(sumTo r _ _).lo<=(sumTo r _ _).hi/\(sumTo r _ _).hi<=810
 omega
theorem mixes_in {r:Run} (h:One r):0<=(mixesS r).lo/\(mixesS r).lo<=(mixesS r).hi/\(mixesS r).hi<=810:=by
 have hw:0 < (waysOf r).length:=by rw [ways_len h.ok]; exact h.pos
 have hpl:=h.ok.plates
 rw [mixesS,if_pos (one_open h rfl)]
 refine hull_in hw fun w hw => ?_
 have:=sum_hb h.ok (f:=fun m=>spread (w.whn m) r.plates.toNat) (fun m hm=>by
  rw [way_spread h.ok hw hm]
  exact minutes_hb (by omega) fun q hq=>by
   have:=(way_ok h.ok hw).2 m hm q (by omega)
   rw [← this]; exact way_hb h.ok hw hm (by omega)) _ (Nat.le_refl _)
 have:=h.ok.machines
 show 0<=(sumTo r _ _).lo/\(sumTo r _ _).lo<=(sumTo r _ _).hi/\(sumTo r _ _).hi<=810
 omega
theorem few_val0 {r:Run} (h:One r):0<=fewP r/\fewP r<=r.machines.length:=⟨(few_spec h).2.1,(few_spec h).2.2.1⟩
theorem ok_fits {r:Run} (ok:Ok r):fits r:=by
 have h1:=ok.machines
 have h2:=ok.found
 have h3:=ok.plates
 refine ⟨by omega,by omega,fun i => ?_,fun i => ?_⟩
 ·by_cases hi:i < r.machines.length
  ·have:=ok.mach i hi; omega
  ·rw [mach,Go.Ab.getD_ge _ _ (by omega)]; exact Nat.zero_le _
 ·by_cases hi:i < r.found.length
  ·have:=ok.fnd i hi; have:=frm_len ok hi; omega
  ·rw [fnd,Go.Ab.getD_ge _ _ (by omega)]; exact ⟨Nat.zero_le _,Nat.zero_le _⟩
theorem minutes_mono {g h:Nat->Span} {n:Nat} (hn:1<=n/\n<=3) (hs:∀ p,p < n->(h p).lo<=(g p).lo/\(g p).hi<=(h p).hi):(minutes h n).lo<=(minutes g n).lo/\(minutes g n).hi<=(minutes h n).hi:=by
 have s0:=hs 0 (by omega)
 have:n=1 ∨ n=2 ∨ n=3:=by omega
 rcases this with rfl | rfl | rfl
 ·refine ⟨?_,?_⟩ <;> (simp only [minutes,minTo,minIn,List.range_succ,List.range_zero,List.nil_append,List.foldl_cons,List.foldl_nil,if_true]; omega)
 ·have s1:=hs 1 (by omega)
  refine ⟨?_,?_⟩ <;> (simp only [minutes,minTo,minIn,List.range_succ,List.range_zero,List.nil_append,List.cons_append,List.foldl_cons,List.foldl_nil,if_true]; simp only [show ¬ (0:Nat)=1 by omega,show ¬ (1:Nat)=0 by omega,if_false]; omega)
 ·have s1:=hs 1 (by omega)
  have s2:=hs 2 (by omega)
  refine ⟨?_,?_⟩ <;> (simp only [minutes,minTo,minIn,List.range_succ,List.range_zero,List.nil_append,List.cons_append,List.foldl_cons,List.foldl_nil,if_true]; simp only [show ¬ (0:Nat)=1 by omega,show ¬ (1:Nat)=0 by omega,show ¬ (0:Nat)=2 by omega,show ¬ (2:Nat)=0 by omega,show ¬ (1:Nat)=2 by omega,show ¬ (2:Nat)=1 by omega,if_false]; omega)
theorem minutes_nn (g:Nat->Span) {n:Nat} (hn:1<=n/\n<=3):0<=(minutes g n).lo/\0<=(minutes g n).hi:=by
 have:n=1 ∨ n=2 ∨ n=3:=by omega
 rcases this with rfl | rfl | rfl
 ·refine ⟨?_,?_⟩ <;> (simp only [minutes,minTo,minIn,List.range_succ,List.range_zero,List.nil_append,List.foldl_cons,List.foldl_nil,if_true]; omega)
 ·refine ⟨?_,?_⟩ <;> (simp only [minutes,minTo,minIn,List.range_succ,List.range_zero,List.nil_append,List.cons_append,List.foldl_cons,List.foldl_nil,if_true]; simp only [show ¬ (0:Nat)=1 by omega,show ¬ (1:Nat)=0 by omega,if_false]; omega)
 ·refine ⟨?_,?_⟩ <;> (simp only [minutes,minTo,minIn,List.range_succ,List.range_zero,List.nil_append,List.cons_append,List.foldl_cons,List.foldl_nil,if_true]; simp only [show ¬ (0:Nat)=1 by omega,show ¬ (1:Nat)=0 by omega,show ¬ (0:Nat)=2 by omega,show ¬ (2:Nat)=0 by omega,show ¬ (1:Nat)=2 by omega,show ¬ (2:Nat)=1 by omega,if_false]; omega)
theorem sumTo_mono {r o:Run} {f g:Nat->Span}:∀ n,(∀ m,m < n->(mach o m).rate=(mach r m).rate/\0<=(mach r m).rate/\(f m).lo<=(g m).lo/\(g m).hi<=(f m).hi/\(g m).lo<=(g m).hi)->(sumTo r f n).lo<=(sumTo o g n).lo/\(sumTo o g n).hi<=(sumTo r f n).hi/\(sumTo o g n).lo<=(sumTo o g n).hi:=by
 intro n
 induction n with
 | zero=>intro _; exact ⟨Int.le_refl _,Int.le_refl _,Int.le_refl _⟩
 | succ n ih =>
  intro h
  have h1:=ih fun m hm=>h m (by omega)
  obtain ⟨e,h2,h3,h4,h5⟩:=h n (by omega)
  rw [sumTo_succ,sumTo_succ,e]
  have a1:=Int.mul_le_mul_of_nonneg_left h3 h2
  have a2:=Int.mul_le_mul_of_nonneg_left h4 h2
  have a3:=Int.mul_le_mul_of_nonneg_left h5 h2
  simp only
  omega
structure Clear (x y:Tld):Prop where
 wl:x.when.length=y.when.length/\x.when.length<=65536
 ol:x.old.length=y.old.length/\x.old.length<=65536
 ml:x.mixed.length=y.mixed.length/\x.mixed.length<=65536
 hl:y.whr.length<=x.whr.length/\x.whr.length<=65536
 mixes:inside x.mixes y.mixes=true
 few:y.fewest<=x.fewest
 when:∀ i,i < x.when.length->inside (x.when.getD i default) (y.when.getD i default)=true
 old:∀ i,i < x.old.length->inside (x.old.getD i default) (y.old.getD i default)=true
 mixed:∀ i,i < x.mixed.length->y.mixed.getD i 0=3 ∨ x.mixed.getD i 0=y.mixed.getD i 0
 whr:∀ i,i < y.whr.length->(∀ k,k < (x.whr.getD i []).length->isIn (y.whr.getD i []) ((x.whr.getD i []).getD k 0)=true)/\(x.whr.getD i []).length<=65536/\(y.whr.getD i []).length<=65536
structure Finer (o r:Run) (φ:List Int->List Int):Prop where
 ro:One r
 oo:One o
 ml:o.machines.length=r.machines.length
 pl:o.plates=r.plates
 rate:∀ m,m < r.machines.length->(mach o m).rate=(mach r m).rate
 mem:∀ x,x ∈ fromsOf o->φ x ∈ fromsOf r
 span:∀ x,x ∈ fromsOf o -> ∀ m,m < r.machines.length -> ∀ p:Nat,(p:Int) < r.plates->(spanOf r (φ x) m p).lo<=(spanOf o x m p).lo/\(spanOf o x m p).hi<=(spanOf r (φ x) m p).hi
 sub:∀ x,x ∈ fromsOf o -> ∀ v,v ∈ φ x->v ∈ x
theorem rhull_in {lo lr:List (List Int)} {F G:List Int->Span} {φ:List Int->List Int} (h1:0 < lo.length) (h2:0 < lr.length) (h:∀ x,x ∈ lo->φ x ∈ lr/\(G (φ x)).lo<=(F x).lo/\(F x).hi<=(G (φ x)).hi/\(F x).lo<=(F x).hi):inside (rhull lo F) (rhull lr G)=true:=by
 obtain ⟨a1,⟨x,hx,ex⟩,y,hy,ey⟩:=rhull_spec F h1
 obtain ⟨b1,_,_⟩:=rhull_spec G h2
 have hx1:=h x hx
 have hy1:=h y hy
 have hx2:=b1 _ hx1.1
 have hy2:=b1 _ hy1.1
 have hx3:=a1 x hx
 simp only [inside,Bool.and_eq_true,decide_eq_true_eq]
 omega
theorem finer_clear {o r:Run} {φ:List Int->List Int} (h:Finer o r φ):∀ ho hr:List (List Int),hr.length<=ho.length->ho.length<=65536 →
  (∀ i,i < hr.length->(∀ k,k < (ho.getD i []).length->isIn (hr.getD i []) ((ho.getD i []).getD k 0)=true)/\(ho.getD i []).length<=65536/\(hr.getD i []).length<=65536) →
  Clear ⟨(toldOf o).when,(toldOf o).old,ho,(toldOf o).mixed,(toldOf o).mixes,(toldOf o).fewest⟩ ⟨(toldOf r).when,(toldOf r).old,hr,(toldOf r).mixed,(toldOf r).mixes,(toldOf r).fewest⟩:=by
 intro ho hr c1 c2 c3
 have okr:=h.ro.ok
 have oko:=h.oo.ok
 have hpl:=okr.plates
 have hml:=okr.machines
 have hN:r.machines.length * r.plates.toNat<=3 * 3:=Nat.mul_le_mul (by omega) (by omega)
 have hmin:∀ x,x ∈ fromsOf o -> ∀ m,m < r.machines.length->(minutes (spanOf r (φ x) m) r.plates.toNat).lo<=(minutes (spanOf o x m) r.plates.toNat).lo/\(minutes (spanOf o x m) r.plates.toNat).hi<=(minutes (spanOf r (φ x) m) r.plates.toNat).hi/\(minutes (spanOf o x m) r.plates.toNat).lo<=(minutes (spanOf o x m) r.plates.toNat).hi:=by
  intro x hx m hm
  have a:=minutes_mono (g:=spanOf o x m) (h:=spanOf r (φ x) m) (n:=r.plates.toNat) (by omega) fun p hp=>h.span x hx m hm p (by omega)
  have b:=minutes_le (h:=spanOf o x m) (n:=r.plates.toNat) (by omega) fun p hp=>froms_le oko hx (by rw [h.ml]; exact hm) (by rw [h.pl]; omega)
  exact ⟨a.1,a.2,b⟩
 refine { wl := ?_,ol := ?_,ml := ?_,hl:=⟨c1,c2⟩,mixes := ?_,few := ?_,when := ?_,old := ?_,mixed := ?_,whr:=c3 }
 ·simp only [toldOf,tWhen_len,h.ml,h.pl]; exact ⟨trivial,by omega⟩
 ·simp only [toldOf,tOld_len,h.pl]; exact ⟨trivial,by omega⟩
 ·simp only [toldOf,tMix_len,h.ml]; exact ⟨trivial,by omega⟩
 ·show inside (mixesS o) (mixesS r)=true
  rw [mixes_val h.oo,mixes_val h.ro]
  refine rhull_in (φ:=φ) h.oo.pos h.ro.pos fun x hx=>⟨h.mem x hx,?_⟩
  unfold mixL
  rw [h.ml,h.pl]
  exact sumTo_mono r.machines.length fun m hm=>⟨h.rate m hm,(okr.mach m hm).2.1,(hmin x hx m hm)⟩
 ·show fewP r<=fewP o
  obtain ⟨_,_,_,x,hx,e⟩:=few_spec h.oo
  have:=(few_spec h.ro).1 (φ x) (h.mem x hx)
  rw [e,h.ml]
  have h2:=usedTo_mono (n:=r.machines.length) (h.sub x hx)
  omega
 ·intro i hi
  simp only [toldOf,tWhen_len,h.ml,h.pl] at hi
  show inside ((tWhen o _).getD i default) ((tWhen r _).getD i default)=true
  rw [tWhen_get _ (by rw [h.ml,h.pl]; exact hi),tWhen_get _ hi]
  obtain ⟨d1,d2⟩:=idx_split (by omega) hi
  unfold wAt
  rw [h.pl]
  have hp:(((i % r.plates.toNat:Nat)):Int) < r.plates:=by omega
  have w1:=(when_val h.oo (whenIs_nat oko (by rw [h.ml]; exact d1) (by rw [h.pl]; exact hp))).1
  have w2:=(when_val h.ro (whenIs_nat okr d1 hp)).1
  rw [w1,w2]
  simp only [Int.toNat_natCast]
  refine rhull_in (φ:=φ) h.oo.pos h.ro.pos fun x hx=>⟨h.mem x hx,?_⟩
  have:=h.span x hx _ d1 _ hp
  have:=froms_le oko hx (m:=i / r.plates.toNat) (p:=i % r.plates.toNat) (by rw [h.ml]; exact d1) (by rw [h.pl]; exact hp)
  omega
 ·intro p hp
  simp only [toldOf,tOld_len,h.pl] at hp
  show inside ((tOld o _).getD p default) ((tOld r _).getD p default)=true
  rw [tOld_get _ (by rw [h.pl]; exact hp),tOld_get _ hp,old_val h.oo (by rw [h.pl]; omega),old_val h.ro (by omega)]
  refine rhull_in (φ:=φ) h.oo.pos h.ro.pos fun x hx=>⟨h.mem x hx,?_⟩
  unfold oldL
  rw [h.ml]
  refine sumTo_mono r.machines.length fun m hm=>⟨h.rate m hm,(okr.mach m hm).2.1,?_⟩
  have:=h.span x hx m hm p (by omega)
  have:=froms_le oko hx (m:=m) (p:=p) (by rw [h.ml]; exact hm) (by rw [h.pl]; omega)
  omega
 ·intro m hm
  simp only [toldOf,tMix_len,h.ml] at hm
  show (tMix r _).getD m 0=3 ∨ (tMix o _).getD m 0=(tMix r _).getD m 0
  rw [tMix_get _ hm,tMix_get _ (by rw [h.ml]; exact hm),mixed_val h.ro hm,mixed_val h.oo (by rw [h.ml]; exact hm),h.pl]
  by_cases e1:∀ x,x ∈ fromsOf r->0 < (minutes (spanOf r x m) r.plates.toNat).lo
  ·have e1':∀ x,x ∈ fromsOf o->0 < (minutes (spanOf o x m) r.plates.toNat).lo:=by
    intro x hx
    have:=e1 _ (h.mem x hx)
    have:=hmin x hx m hm
    omega
   right; rw [if_pos e1,if_pos e1']
  ·rw [if_neg e1]
   by_cases e2:∀ x,x ∈ fromsOf r->(minutes (spanOf r x m) r.plates.toNat).hi=0
   ·have e2':∀ x,x ∈ fromsOf o->(minutes (spanOf o x m) r.plates.toNat).hi=0/\(minutes (spanOf o x m) r.plates.toNat).lo<=0:=by
     intro x hx
     have a:=e2 _ (h.mem x hx)
     have b:=hmin x hx m hm
     have c:=minutes_nn (spanOf o x m) (n:=r.plates.toNat) (by omega)
     omega
    right
    obtain ⟨x,hx⟩:=one_ex h.oo
    rw [if_pos e2,if_neg (fun hh=>by have:=hh x hx; have:=e2' x hx; omega),if_pos (fun x hx=>(e2' x hx).1)]
   ·left; rw [if_neg e2]
end Go.Sh
namespace Go.Sh
structure TellF (r:Run):Prop where
 okb:okRun r=true
 one:One r
theorem tellF {r:Run} (h:okRun r=true) (h2:isOne r=true):TellF r:=by
 have:0 < (fromsOf r).length:=by simp only [isOne,decide_eq_true_eq] at h2; omega
 obtain ⟨x,hx⟩:=List.exists_mem_of_length_pos this
 exact ⟨h,one_of h hx⟩
end Go.Sh
namespace Go.En
open Go Go.Ab Go.Sh
def cTld (x:Tld):List AV:=[aSpans x.when,aSpans x.old,aIntss x.whr,aInts x.mixed,iv x.mixes.lo,iv x.mixes.hi,iv x.fewest]
abbrev vTld (x:Tld):AV := .agg (cTld x)
end Go.En
namespace Go.Ab
open Go Go.RowKit Go.Proofs Go.Sh Go.En
def s47 (r:Run):CallSpec:={ args:=[vRun r],res := .tup [vTld (toldOf r),bv true],pre:=fits r/\okRun r=true/\isOne r=true }
def h47a (r:Run):Hint:={ X:=Nat,M:=fun m=>[(5,iv m),(4,.ptr 5000 [])],H:=fun m=>[(5000,.cells 62 [.vec 5001,nilv,nilv,.vec 5002,iv 0,iv 0,iv 0]),(5001,.vec 37 2 (m * r.plates.toNat) (fun k=>cSpan (wAt r k))),(5002,.vec 3 1 m (fun k=>[iv (mixedS r k)]))],I:=fun m=>m<=r.machines.length,mu:=fun m=>r.machines.length - m,x0:=(0:Nat),nx:=fun m=>m + 1 }
def h47b (r:Run) (m:Nat):Hint:={ X:=Nat,M:=fun p=>[(6,iv p),(4,.ptr 5003 [])],H:=fun p=>[(5003,.cells 62 [.vec 5004,nilv,nilv,.vec 5005,iv 0,iv 0,iv 0]),(5004,.vec 37 2 (m * r.plates.toNat + p) (fun k=>cSpan (wAt r k))),(5005,.vec 3 1 m (fun k=>[iv (mixedS r k)]))],I:=fun p=>p<=r.plates.toNat,mu:=fun p=>r.plates.toNat - p,x0:=(0:Nat),nx:=fun p=>p + 1 }
def h47c (r:Run):Hint:={ X:=Nat,M:=fun p=>[(11,iv p),(4,.ptr 5006 [])],H:=fun p=>[(5006,.cells 62 [.vec 5007,.vec 5008,nilv,.vec 5009,iv 0,iv 0,iv 0]),(5007,.vec 37 2 (r.machines.length * r.plates.toNat) (fun k=>cSpan (wAt r k))),(5008,.vec 37 2 p (fun k=>cSpan (oldS r k))),(5009,.vec 3 1 r.machines.length (fun k=>[iv (mixedS r k)]))],I:=fun p=>p<=r.plates.toNat,mu:=fun p=>r.plates.toNat - p,x0:=(0:Nat),nx:=fun p=>p + 1 }
def h47d (r:Run):Hint:={ X:=Nat,M:=fun i=>[(14,iv i),(4,.ptr 5010 [])],H:=fun i=>[(5010,.cells 62 [.vec 5011,.vec 5012,.vec 5013,.vec 5014,iv 0,iv 0,iv 0]),(5011,.vec 37 2 (r.machines.length * r.plates.toNat) (fun k=>cSpan (wAt r k))),(5012,.vec 37 2 r.plates.toNat (fun k=>cSpan (oldS r k))),(5013,.vec 30 1 i (fun k=>[aInts (whereS r k)])),(5014,.vec 3 1 r.machines.length (fun k=>[iv (mixedS r k)]))],I:=fun i=>i<=r.found.length,mu:=fun i=>r.found.length - i,x0:=(0:Nat),nx:=fun i=>i + 1 }
def s48 (x y:Tld):CallSpec:={ args:=[vTld x,vTld y],res:=bv true,pre:=Clear x y }
def h48a (x y:Tld):Hint:={ X:=Nat,M:=fun i=>[(5,iv i)],I:=fun i=>i<=x.when.length,mu:=fun i=>x.when.length - i,x0:=(0:Nat),nx:=fun i=>i + 1 }
def h48b (x y:Tld):Hint:={ X:=Nat,M:=fun i=>[(6,iv i)],I:=fun i=>i<=x.old.length,mu:=fun i=>x.old.length - i,x0:=(0:Nat),nx:=fun i=>i + 1 }
def h48c (x y:Tld):Hint:={ X:=Nat,M:=fun i=>[(7,iv i)],I:=fun i=>i<=x.mixed.length,mu:=fun i=>x.mixed.length - i,x0:=(0:Nat),nx:=fun i=>i + 1 }
def h48d (x y:Tld):Hint:={ X:=Nat,M:=fun i=>[(8,iv i)],I:=fun i=>i<=y.whr.length,mu:=fun i=>y.whr.length - i,x0:=(0:Nat),nx:=fun i=>i + 1 }
def h48e (x y:Tld) (i:Nat):Hint:={ X:=Nat,M:=fun k=>[(9,iv k)],I:=fun k=>k<=(x.whr.getD i []).length,mu:=fun k=>(x.whr.getD i []).length - k,x0:=(0:Nat),nx:=fun k=>k + 1 }
end Go.Ab
namespace Go.Ab
open Go Go.RowKit Go.Proofs Go.Sh Go.En
abbrev q47_1 (r:Run) (C:Prop):Prop:=fits r/\okRun r=true/\isOne r=true->C
abbrev q47_2 (r:Run) (C:Nat->Prop):Prop:=q47_1 r (∀ (x0:Nat),x0<=r.machines.length->decide ((x0:Int) < (↑(r.machines.length):Int))=true->C x0)
abbrev q47_3 (r:Run) (C:Nat->Nat->Prop):Prop:=q47_2 r fun x0 => ∀ (x2:Nat),x2<=r.plates.toNat->decide ((x2:Int) < r.plates)=true->C x0 x2
abbrev q47_4 (r:Run) (C:Nat->Nat->Prop):Prop:=q47_3 r fun x0 x2=>(!!decide (openE r (whenIs r (x0:Int) (x2:Int))=0))->C x0 x2
abbrev q47_5 (r:Run) (C:Nat->Nat->Prop):Prop:=q47_2 r fun x0 => ∀ (x2:Nat),x2<=r.plates.toNat->decide ((x2:Int) < r.plates)=false->C x0 x2
abbrev q47_6 (r:Run) (C:Nat->Prop):Prop:=q47_1 r (∀ (x0:Nat),x0<=r.machines.length->decide ((x0:Int) < (↑(r.machines.length):Int))=false->C x0)
abbrev q47_7 (r:Run) (C:Nat->Nat->Prop):Prop:=q47_6 r fun x0 => ∀ (x50:Nat),x50<=r.plates.toNat->decide ((x50:Int) < r.plates)=true->C x0 x50
abbrev q47_8 (r:Run) (C:Nat->Nat->Prop):Prop:=q47_6 r fun x0 => ∀ (x50:Nat),x50<=r.plates.toNat->decide ((x50:Int) < r.plates)=false->C x0 x50
abbrev q47_9 (r:Run) (C:Nat->Nat->Nat->Prop):Prop:=q47_8 r fun x0 x50 => ∀ (x70:Nat),x70<=r.found.length->decide ((x70:Int) < (↑(r.found.length):Int))=true->C x0 x50 x70
abbrev q47_10 (r:Run) (C:Nat->Nat->Nat->Prop):Prop:=q47_8 r fun x0 x50 => ∀ (x70:Nat),x70<=r.found.length->decide ((x70:Int) < (↑(r.found.length):Int))=false->C x0 x50 x70
theorem w47 (r:Run)
 (o0:q47_1 r (0=(↑0:Int)))
 (o1:q47_1 r (0 * r.plates.toNat=0))
 (o2:q47_1 r (0<=r.machines.length))
 (o3:q47_2 r fun x0=>0=(↑0:Int))
 (o4:q47_2 r fun x0=>x0 * r.plates.toNat=x0 * r.plates.toNat + 0)
 (o5:q47_2 r fun x0=>0<=r.plates.toNat)
 (o6:q47_4 r fun x0 x2=>0<=(x0:Int))
 (o7:q47_4 r fun x0 x2=>(x0:Int) < (↑(r.machines.length):Int))
 (o8:q47_4 r fun x0 x2=>0<=(x2:Int))
 (o9:q47_4 r fun x0 x2=>(x2:Int) < (↑((mach r x0).changes.length):Int))
 (o10:q47_3 r fun x0 x2=>(!decide (openE r (whenIs r (x0:Int) (x2:Int))=0))=false->(!!decide (openE r (whenIs r (x0:Int) (x2:Int))=0))=true)
 (o11:q47_3 r fun x0 x2=>(bif !decide (openE r (whenIs r (x0:Int) (x2:Int))=0) then true else !inside (whenS r (x0:Int) (x2:Int)) ((mach r x0).changes.getD x2 default))=false)
 (o12:q47_3 r fun x0 x2=>x0 * r.plates.toNat + x2 + 1<=65536)
 (o13:q47_3 r fun x0 x2=>inI ((x2:Int) + 1))
 (o14:q47_3 r fun x0 x2=>(x2:Int) + 1=(↑(x2 + 1):Int))
 (o15:q47_3 r fun x0 x2=>x0 * r.plates.toNat + x2 + 1=x0 * r.plates.toNat + (x2 + 1))
 (o16:q47_3 r fun x0 x2 => ∀ (i35:Nat),i35 < x0 * r.plates.toNat + x2 + 1->catF (x0 * r.plates.toNat + x2) (fun (k:Nat)=>cSpan (wAt r k)) (fun (j:Nat)=>List.getD [[iv (whenS r (x0:Int) (x2:Int)).lo,iv (whenS r (x0:Int) (x2:Int)).hi]] j (TI.za ti37)) i35=cSpan (wAt r i35))
 (o17:q47_3 r fun x0 x2=>x2 + 1<=r.plates.toNat)
 (o18:q47_3 r fun x0 x2=>r.plates.toNat - (x2 + 1) < r.plates.toNat - x2)
 (o19:q47_5 r fun x0 x2=>(!decide (openE r (isMachine r (x0:Int))=0))=false->(!!decide (openE r (isMachine r (x0:Int))=0))=true)
 (o20:q47_5 r fun x0 x2=>(bif !decide (openE r (isMachine r (x0:Int))=0) then true else !within (mixedS r (x0:Int)) 1 3)=false)
 (o21:q47_5 r fun x0 x2=>x0 + 1<=65536)
 (o22:q47_5 r fun x0 x2=>inI ((x0:Int) + 1))
 (o23:q47_5 r fun x0 x2=>(x0:Int) + 1=(↑(x0 + 1):Int))
 (o24:q47_5 r fun x0 x2=>x0 * r.plates.toNat + x2=(x0 + 1) * r.plates.toNat)
 (o25:q47_5 r fun x0 x2 => ∀ (i48:Nat),i48 < x0 + 1->catF x0 (fun (k:Nat)=>[iv (mixedS r (k:Int))]) (fun (j:Nat)=>List.getD [[iv (mixedS r (x0:Int))]] j (TI.za ti3)) i48 = [iv (mixedS r (i48:Int))])
 (o26:q47_5 r fun x0 x2=>x0 + 1<=r.machines.length)
 (o27:q47_5 r fun x0 x2=>r.machines.length - (x0 + 1) < r.machines.length - x0)
 (o28:q47_6 r fun x0=>0=(↑0:Int))
 (o29:q47_6 r fun x0=>x0 * r.plates.toNat=r.machines.length * r.plates.toNat)
 (o30:q47_6 r fun x0=>x0=r.machines.length)
 (o31:q47_6 r fun x0=>0<=r.plates.toNat)
 (o32:q47_7 r fun x0 x50=>(!decide (openE r (isPlate r (x50:Int))=0))=false->(!!decide (openE r (isPlate r (x50:Int))=0))=true)
 (o33:q47_7 r fun x0 x50=>(bif !decide (openE r (isPlate r (x50:Int))=0) then true else !inside (oldS r (x50:Int)) (Span.mk 0 810))=false)
 (o34:q47_7 r fun x0 x50=>x50 + 1<=65536)
 (o35:q47_7 r fun x0 x50=>inI ((x50:Int) + 1))
 (o36:q47_7 r fun x0 x50=>(x50:Int) + 1=(↑(x50 + 1):Int))
 (o37:q47_7 r fun x0 x50 => ∀ (i68:Nat),i68 < x50 + 1->catF x50 (fun (k:Nat)=>cSpan (oldS r (k:Int))) (fun (j:Nat)=>List.getD [[iv (oldS r (x50:Int)).lo,iv (oldS r (x50:Int)).hi]] j (TI.za ti37)) i68=cSpan (oldS r (i68:Int)))
 (o38:q47_7 r fun x0 x50=>x50 + 1<=r.plates.toNat)
 (o39:q47_7 r fun x0 x50=>r.plates.toNat - (x50 + 1) < r.plates.toNat - x50)
 (o40:q47_8 r fun x0 x50=>0=(↑0:Int))
 (o41:q47_8 r fun x0 x50=>x50=r.plates.toNat)
 (o42:q47_8 r fun x0 x50=>0<=r.found.length)
 (o43:q47_9 r fun x0 x50 x70=>(!decide (openE r (isFound r (x70:Int))=0))=false->(!!decide (openE r (isFound r (x70:Int))=0))=true)
 (o44:q47_9 r fun x0 x50 x70=>(!bif !decide (openE r (isFound r (x70:Int))=0) then true else decide ((↑((whereS r (x70:Int)).length):Int)=0))=true->inI ((↑(r.machines.length):Int) - 1))
 (o45:q47_9 r fun x0 x50 x70=>(!bif !decide (openE r (isFound r (x70:Int))=0) then true else decide ((↑((whereS r (x70:Int)).length):Int)=0))=true->(whereS r (x70:Int)).length<=1125899906842624)
 (o46:q47_9 r fun x0 x50 x70=>(bif !decide (openE r (isFound r (x70:Int))=0) then true else decide ((↑((whereS r (x70:Int)).length):Int)=0))=false->(!bif !decide (openE r (isFound r (x70:Int))=0) then true else decide ((↑((whereS r (x70:Int)).length):Int)=0))=true)
 (o47:q47_9 r fun x0 x50 x70=>(bif bif !decide (openE r (isFound r (x70:Int))=0) then true else decide ((↑((whereS r (x70:Int)).length):Int)=0) then true else !rising (whereS r (x70:Int)) 0 ((↑(r.machines.length):Int) - 1))=false)
 (o48:q47_9 r fun x0 x50 x70=>x70 + 1<=65536)
 (o49:q47_9 r fun x0 x50 x70=>inI ((x70:Int) + 1))
 (o50:q47_9 r fun x0 x50 x70=>(x70:Int) + 1=(↑(x70 + 1):Int))
 (o51:q47_9 r fun x0 x50 x70 => ∀ (i104:Nat),i104 < x70 + 1->catF x70 (fun (k:Nat)=>[aInts (whereS r (k:Int))]) (fun (j:Nat)=>List.getD [[AV.sl 1 (whereS r (x70:Int)).length fun (i:Nat)=>[iv ((whereS r (x70:Int)).getD i 0)]]] j (TI.za ti30)) i104 = [aInts (whereS r (i104:Int))])
 (o52:q47_9 r fun x0 x50 x70=>x70 + 1<=r.found.length)
 (o53:q47_9 r fun x0 x50 x70=>r.found.length - (x70 + 1) < r.found.length - x70)
 (o54:q47_10 r fun x0 x50 x70=>r.machines.length * r.plates.toNat=(Tld.when (toldOf r)).length)
 (o55:q47_10 r fun x0 x50 x70 => ∀ (i138:Nat),i138 < (Tld.when (toldOf r)).length->cSpan (wAt r i138) = [iv ((Tld.when (toldOf r)).getD i138 default).lo,iv ((Tld.when (toldOf r)).getD i138 default).hi])
 (o56:q47_10 r fun x0 x50 x70=>r.plates.toNat=(Tld.old (toldOf r)).length)
 (o57:q47_10 r fun x0 x50 x70 => ∀ (i140:Nat),i140 < (Tld.old (toldOf r)).length->cSpan (oldS r (i140:Int)) = [iv ((Tld.old (toldOf r)).getD i140 default).lo,iv ((Tld.old (toldOf r)).getD i140 default).hi])
 (o58:q47_10 r fun x0 x50 x70=>x70=(Tld.whr (toldOf r)).length)
 (o59:q47_10 r fun x0 x50 x70 => ∀ (i142:Nat),i142 < (Tld.whr (toldOf r)).length -> [aInts (whereS r (i142:Int))] = [aInts ((Tld.whr (toldOf r)).getD i142 [])])
 (o60:q47_10 r fun x0 x50 x70=>r.machines.length=(Tld.mixed (toldOf r)).length)
 (o61:q47_10 r fun x0 x50 x70 => ∀ (i144:Nat),i144 < (Tld.mixed (toldOf r)).length -> [iv (mixedS r (i144:Int))] = [iv ((Tld.mixed (toldOf r)).getD i144 0)])
 (o62:q47_10 r fun x0 x50 x70=>(mixesS r).lo=(Tld.mixes (toldOf r)).lo)
 (o63:q47_10 r fun x0 x50 x70=>(mixesS r).hi=(Tld.mixes (toldOf r)).hi)
 (o64:q47_10 r fun x0 x50 x70=>fewP r=Tld.fewest (toldOf r))
 (o65:q47_10 r fun x0 x50 x70=>(bif bif bif bif decide (openE r true=0) then decide (openE r true=0) else false then inside (mixesS r) (Span.mk 0 810) else false then decide (0<=fewP r) else false then decide (fewP r<=(↑(r.machines.length):Int)) else false)=true) :
  Triple Try.prog 47 (s47 r):=by
 refine triple_of Try.func47 rfl Try.call47 T0_ok _ rfl rfl rfl rfl (Nat.le_of_ble_eq_true (by kernel_rfl)) (fun _ _ _ _ h=>h) ?_
 intro hp C hC _ hE
 obtain ⟨P,w0,E0,av,hA⟩:=C
 subst hC
 refine swp_seq ?_
 refine sR (kt:=[1,2]) (kh:=[0,8]) (q:=True/\True/\True/\True) (st':=ASt.mk [(1,.ptr 0 []),(2,.ptr 8 [])] [(0,.cells 25 (cRun r)),(8,.cells 62 [nilv,nilv,nilv,nilv,iv 0,iv 0,iv 0])] 24) (by kernel_rfl) ⟨tv,tv,tv,tv⟩ ?_
 refine swp_seq ?_
 refine sR (kt:=[1,2,4]) (kh:=[0,8,24]) (q:=True/\True) (st':=ASt.mk [(1,.ptr 0 []),(2,.ptr 8 []),(4,.ptr 24 [])] [(0,.cells 25 (cRun r)),(8,.cells 62 [nilv,nilv,nilv,nilv,iv 0,iv 0,iv 0]),(24,.cells 62 [nilv,nilv,nilv,nilv,iv 0,iv 0,iv 0])] 32) (by kernel_rfl) ⟨tv,tv⟩ ?_
 refine swp_seq (swp_seq ?_)
 refine sR (kt:=[1,2,4,5]) (kh:=[0,8,24]) (q:=True/\True) (st':=ASt.mk [(1,.ptr 0 []),(2,.ptr 8 []),(4,.ptr 24 []),(5,iv 0)] [(0,.cells 25 (cRun r)),(8,.cells 62 [nilv,nilv,nilv,nilv,iv 0,iv 0,iv 0]),(24,.cells 62 [nilv,nilv,nilv,nilv,iv 0,iv 0,iv 0])] 40) (by kernel_rfl) ⟨tv,tv⟩ ?_
 refine swp_block ?_
 refine swp_loopA (Hint.ann (h47a r) [(1,AV.ptr 0 []),(2,AV.ptr 8 [])] [(0,OB.cells 25 (cRun r)),(8,OB.cells 62 [nilv,nilv,nilv,nilv,iv 0,iv 0,iv 0])] 10040) (ent_q hE [] [(0,.same 0),(8,.same 8),(5000,.same 24),(5001,.nil),(5002,.nil)] [] [0,8] (((some (Src.same 0)=some (Src.same 0)/\nilP = [])/\(some (Src.same 8)=some (Src.same 8)/\nilP = [])/\(iv 0=iv (↑0:Int)/\nilN = [])/\(some (Src.same 24)=some (Src.same 24)/\nilP = [])/\True)/\((OB.cells 25 (cRun r)=OB.cells 25 (cRun r)/\true=true)/\(OB.cells 62 [nilv,nilv,nilv,nilv,iv 0,iv 0,iv 0]=OB.cells 62 [nilv,nilv,nilv,nilv,iv 0,iv 0,iv 0]/\true=true)/\(62=62/\(some Src.nil=some Src.nil/\(nilv=nilv/\nilN = [])/\(nilv=nilv/\nilN = [])/\some Src.nil=some Src.nil/\(iv 0=iv 0/\nilN = [])/\(iv 0=iv 0/\nilN = [])/\(iv 0=iv 0/\nilN = [])/\True)/\true=true)/\0 * r.plates.toNat=0/\0=0/\True)/\T2) (by kernel_rfl) (by kernel_rfl) ⟨⟨⟨rfl,rfl⟩,⟨rfl,rfl⟩,⟨(congrArg iv (o0 hp)),rfl⟩,⟨rfl,rfl⟩,tv⟩,⟨⟨rfl,rfl⟩,⟨rfl,rfl⟩,⟨rfl,⟨rfl,⟨rfl,rfl⟩,⟨rfl,rfl⟩,rfl,⟨rfl,rfl⟩,⟨rfl,rfl⟩,⟨rfl,rfl⟩,tv⟩,rfl⟩,(o1 hp),rfl,tv⟩,rfl,rfl⟩) (o2 hp) (fun (x0:Nat) hx0 => ?_)
 refine swp_seq (swp_seq ?_)
 refine sR (kt:=[1,2,5,4,25]) (kh:=[0,8,5000,5001,5002]) (q:=True/\True/\True/\True/\True/\True) (st':=ASt.mk [(1,.ptr 0 []),(2,.ptr 8 []),(5,iv (x0:Int)),(4,.ptr 5000 []),(25,bv (decide ((x0:Int) < (↑(r.machines.length):Int))))] [(0,.cells 25 (cRun r)),(8,.cells 62 [nilv,nilv,nilv,nilv,iv 0,iv 0,iv 0]),(5000,.cells 62 [.vec 5001,nilv,nilv,.vec 5002,iv 0,iv 0,iv 0]),(5001,.vec 37 2 (x0 * r.plates.toNat) fun (k:Nat)=>cSpan (wAt r k)),(5002,.vec 3 1 x0 fun (k:Nat)=>[iv (mixedS r (k:Int))])] 10080) (by kernel_rfl) ⟨tv,tv,tv,tv,tv,tv⟩ ?_
 refine swp_cond (decide ((x0:Int) < (↑(r.machines.length):Int))) (by kernel_rfl) (fun h1 => ?_) (fun h1 => ?_)
 ·refine swp_skip (swp_seq (swp_block (swp_seq (swp_seq ?_))))
  refine sR (kt:=[1,2,5,4,6]) (kh:=[0,8,5000,5001,5002]) (q:=True/\True) (st':=ASt.mk [(1,.ptr 0 []),(2,.ptr 8 []),(5,iv (x0:Int)),(4,.ptr 5000 []),(6,iv 0)] [(0,.cells 25 (cRun r)),(8,.cells 62 [nilv,nilv,nilv,nilv,iv 0,iv 0,iv 0]),(5000,.cells 62 [.vec 5001,nilv,nilv,.vec 5002,iv 0,iv 0,iv 0]),(5001,.vec 37 2 (x0 * r.plates.toNat) fun (k:Nat)=>cSpan (wAt r k)),(5002,.vec 3 1 x0 fun (k:Nat)=>[iv (mixedS r (k:Int))])] 10088) (by kernel_rfl) ⟨tv,tv⟩ ?_
  refine swp_block ?_
  refine swp_loopA (Hint.ann (h47b r x0) [(1,AV.ptr 0 []),(2,AV.ptr 8 []),(5,iv (x0:Int))] [(0,OB.cells 25 (cRun r)),(8,OB.cells 62 [nilv,nilv,nilv,nilv,iv 0,iv 0,iv 0])] 20088) (ent_q hE [] [(0,.same 0),(8,.same 8),(5003,.same 5000),(5004,.same 5001),(5005,.same 5002)] [5] [0,8] (((some (Src.same 0)=some (Src.same 0)/\nilP = [])/\(some (Src.same 8)=some (Src.same 8)/\nilP = [])/\(iv (x0:Int)=iv (x0:Int)/\true=true)/\(iv 0=iv (↑0:Int)/\nilN = [])/\(some (Src.same 5000)=some (Src.same 5000)/\nilP = [])/\True)/\((OB.cells 25 (cRun r)=OB.cells 25 (cRun r)/\true=true)/\(OB.cells 62 [nilv,nilv,nilv,nilv,iv 0,iv 0,iv 0]=OB.cells 62 [nilv,nilv,nilv,nilv,iv 0,iv 0,iv 0]/\true=true)/\(62=62/\(some (Src.same 5001)=some (Src.same 5001)/\(nilv=nilv/\nilN = [])/\(nilv=nilv/\nilN = [])/\some (Src.same 5002)=some (Src.same 5002)/\(iv 0=iv 0/\nilN = [])/\(iv 0=iv 0/\nilN = [])/\(iv 0=iv 0/\nilN = [])/\True)/\true=true)/\(37=37/\2=2/\x0 * r.plates.toNat=x0 * r.plates.toNat + 0 /\ ∀ (i3:Nat),i3 < x0 * r.plates.toNat->cSpan (wAt r i3)=cSpan (wAt r i3))/\(3=3/\1=1/\x0=x0 /\ ∀ (i5:Nat),i5 < x0 -> [iv (mixedS r (i5:Int))] = [iv (mixedS r (i5:Int))])/\True)/\T2) (by kernel_rfl) (by kernel_rfl) ⟨⟨⟨rfl,rfl⟩,⟨rfl,rfl⟩,⟨rfl,rfl⟩,⟨(congrArg iv (o3 hp x0 hx0 h1)),rfl⟩,⟨rfl,rfl⟩,tv⟩,⟨⟨rfl,rfl⟩,⟨rfl,rfl⟩,⟨rfl,⟨rfl,⟨rfl,rfl⟩,⟨rfl,rfl⟩,rfl,⟨rfl,rfl⟩,⟨rfl,rfl⟩,⟨rfl,rfl⟩,tv⟩,rfl⟩,⟨rfl,rfl,(o4 hp x0 hx0 h1),(fun i3=>(fun h4=>rfl))⟩,⟨rfl,rfl,rfl,(fun i5=>(fun h6=>rfl))⟩,tv⟩,rfl,rfl⟩) (o5 hp x0 hx0 h1) (fun (x2:Nat) hx2 => ?_)
  refine swp_seq (swp_seq ?_)
  refine sR (kt:=[1,2,5,6,4,31]) (kh:=[0,8,5003,5004,5005]) (q:=True/\True/\True/\True/\True) (st':=ASt.mk [(1,.ptr 0 []),(2,.ptr 8 []),(5,iv (x0:Int)),(6,iv (x2:Int)),(4,.ptr 5003 []),(31,bv (decide ((x2:Int) < r.plates)))] [(0,.cells 25 (cRun r)),(8,.cells 62 [nilv,nilv,nilv,nilv,iv 0,iv 0,iv 0]),(5003,.cells 62 [.vec 5004,nilv,nilv,.vec 5005,iv 0,iv 0,iv 0]),(5004,.vec 37 2 (x0 * r.plates.toNat + x2) fun (k:Nat)=>cSpan (wAt r k)),(5005,.vec 3 1 x0 fun (k:Nat)=>[iv (mixedS r (k:Int))])] 20120) (by kernel_rfl) ⟨tv,tv,tv,tv,tv⟩ ?_
  refine swp_cond (decide ((x2:Int) < r.plates)) (by kernel_rfl) (fun h7 => ?_) (fun h7 => ?_)
  ·refine swp_skip (swp_seq (swp_block (swp_seq ?_)))
   refine swp_region T0_ok mixed (cs:=[(3,CallSpec.eq (s23 r (x0:Int) (x2:Int)) [true,true,true])]) (kt:=[1,2,5,6,4,7,8]) (kh:=[0,8,5003,20176,5004,5005]) (q:=True/\True/\True/\((AV.agg (cRun r)=AV.agg (cRun r)/\iv (x0:Int)=iv (x0:Int)/\iv (x2:Int)=iv (x2:Int)/\True)/\Triple Try.prog 23 (s23 r (x0:Int) (x2:Int))/\fits r/\True /\ ∀ (i8:Env),True)/\True/\True/\True/\True/\True/\True/\True) (st':=ASt.mk [(1,.ptr 0 []),(2,.ptr 8 []),(5,iv (x0:Int)),(6,iv (x2:Int)),(4,.ptr 5003 []),(7,.ptr 20176 []),(8,iv (openE r (whenIs r (x0:Int) (x2:Int))))] [(0,.cells 25 (cRun r)),(8,.cells 62 [nilv,nilv,nilv,nilv,iv 0,iv 0,iv 0]),(5003,.cells 62 [.vec 5004,nilv,nilv,.vec 5005,iv 0,iv 0,iv 0]),(20176,.cells 37 (cSpan (whenS r (x0:Int) (x2:Int)))),(5004,.vec 37 2 (x0 * r.plates.toNat + x2) fun (k:Nat)=>cSpan (wAt r k)),(5005,.vec 3 1 x0 fun (k:Nat)=>[iv (mixedS r (k:Int))])] 20200) (by kernel_rfl) ⟨tv,tv,tv,⟨⟨rfl,rfl,rfl,tv⟩,(t23 (r) ((x0:Int)) ((x2:Int))),hp.1,tv,(fun i8=>tv)⟩,tv,tv,tv,tv,tv,tv,tv⟩ ?_
   refine swp_seq (swp_seq ?_)
   refine swp_region T0_ok mixed (cs:=[(13,CallSpec.eq (s28 (whenS r (x0:Int) (x2:Int)) ((mach r x0).changes.getD x2 default)) [true,true])]) (kt:=[1,2,5,6,4,7,56]) (kh:=[0,8,5003,20176,5004,5005]) (q:=True/\True/\True/\((!!decide (openE r (whenIs r (x0:Int) (x2:Int))=0))->(True/\True)/\True)/\((!!decide (openE r (whenIs r (x0:Int) (x2:Int))=0))->(True/\True)/\True)/\((!!decide (openE r (whenIs r (x0:Int) (x2:Int))=0))->(((!!decide (openE r (whenIs r (x0:Int) (x2:Int))=0))->(!!decide (openE r (whenIs r (x0:Int) (x2:Int))=0))=true)/\True)/\True)/\((!!decide (openE r (whenIs r (x0:Int) (x2:Int))=0))->(True/\True)/\True)/\((!!decide (openE r (whenIs r (x0:Int) (x2:Int))=0))->(((!!decide (openE r (whenIs r (x0:Int) (x2:Int))=0))->(!!decide (openE r (whenIs r (x0:Int) (x2:Int))=0))=true)/\((!!decide (openE r (whenIs r (x0:Int) (x2:Int))=0))->(!!decide (openE r (whenIs r (x0:Int) (x2:Int))=0))=true)/\True)/\0<=(x0:Int)/\(x0:Int) < (↑(r.machines.length):Int))/\((!!decide (openE r (whenIs r (x0:Int) (x2:Int))=0))->(((!!decide (openE r (whenIs r (x0:Int) (x2:Int))=0))->(!!decide (openE r (whenIs r (x0:Int) (x2:Int))=0))=true)/\True)/\True)/\((!!decide (openE r (whenIs r (x0:Int) (x2:Int))=0))->(((!!decide (openE r (whenIs r (x0:Int) (x2:Int))=0))->(!!decide (openE r (whenIs r (x0:Int) (x2:Int))=0))=true)/\True)/\True)/\((!!decide (openE r (whenIs r (x0:Int) (x2:Int))=0))->(True/\True)/\True)/\((!!decide (openE r (whenIs r (x0:Int) (x2:Int))=0))->(((!!decide (openE r (whenIs r (x0:Int) (x2:Int))=0))->(!!decide (openE r (whenIs r (x0:Int) (x2:Int))=0))=true)/\((!!decide (openE r (whenIs r (x0:Int) (x2:Int))=0))->(!!decide (openE r (whenIs r (x0:Int) (x2:Int))=0))=true)/\True)/\0<=(x2:Int)/\(x2:Int) < (↑((mach r x0).changes.length):Int))/\((!!decide (openE r (whenIs r (x0:Int) (x2:Int))=0))->(((!!decide (openE r (whenIs r (x0:Int) (x2:Int))=0))->(!!decide (openE r (whenIs r (x0:Int) (x2:Int))=0))=true)/\True)/\True)/\((!!decide (openE r (whenIs r (x0:Int) (x2:Int))=0))->(True/\((!!decide (openE r (whenIs r (x0:Int) (x2:Int))=0))->(!!decide (openE r (whenIs r (x0:Int) (x2:Int))=0))=true)/\((!!decide (openE r (whenIs r (x0:Int) (x2:Int))=0))->(!!decide (openE r (whenIs r (x0:Int) (x2:Int))=0))=true)/\True)/\(AV.agg (cSpan (whenS r (x0:Int) (x2:Int)))=AV.agg (cSpan (whenS r (x0:Int) (x2:Int)))/\AV.agg (cSpan ((mach r x0).changes.getD x2 default))=AV.agg (cSpan ((mach r x0).changes.getD x2 default))/\True)/\Triple Try.prog 28 (s28 (whenS r (x0:Int) (x2:Int)) ((mach r x0).changes.getD x2 default))/\True/\True /\ ∀ (i30:Env),True)/\((!!decide (openE r (whenIs r (x0:Int) (x2:Int))=0))->(((!!decide (openE r (whenIs r (x0:Int) (x2:Int))=0))->(!!decide (openE r (whenIs r (x0:Int) (x2:Int))=0))=true)/\True)/\True)/\(((!decide (openE r (whenIs r (x0:Int) (x2:Int))=0))->True)/\((!decide (openE r (whenIs r (x0:Int) (x2:Int))=0))=false->(!!decide (openE r (whenIs r (x0:Int) (x2:Int))=0))=true))/\True) (st':=ASt.mk [(1,.ptr 0 []),(2,.ptr 8 []),(5,iv (x0:Int)),(6,iv (x2:Int)),(4,.ptr 5003 []),(7,.ptr 20176 []),(56,bv (bif !decide (openE r (whenIs r (x0:Int) (x2:Int))=0) then true else !inside (whenS r (x0:Int) (x2:Int)) ((mach r x0).changes.getD x2 default)))] [(0,.cells 25 (cRun r)),(8,.cells 62 [nilv,nilv,nilv,nilv,iv 0,iv 0,iv 0]),(5003,.cells 62 [.vec 5004,nilv,nilv,.vec 5005,iv 0,iv 0,iv 0]),(20176,.cells 37 (cSpan (whenS r (x0:Int) (x2:Int)))),(5004,.vec 37 2 (x0 * r.plates.toNat + x2) fun (k:Nat)=>cSpan (wAt r k)),(5005,.vec 3 1 x0 fun (k:Nat)=>[iv (mixedS r (k:Int))])] 20328) (by kernel_rfl) ⟨tv,tv,tv,(fun h9=>⟨⟨tv,tv⟩,tv⟩),(fun h10=>⟨⟨tv,tv⟩,tv⟩),(fun h11=>⟨⟨(fun h12=>h11),tv⟩,tv⟩),(fun h13=>⟨⟨tv,tv⟩,tv⟩),(fun h14=>⟨⟨(fun h15=>h14),(fun h16=>h14),tv⟩,(o6 hp x0 hx0 h1 x2 hx2 h7 h14),(o7 hp x0 hx0 h1 x2 hx2 h7 h14)⟩),(fun h17=>⟨⟨(fun h18=>h17),tv⟩,tv⟩),(fun h19=>⟨⟨(fun h20=>h19),tv⟩,tv⟩),(fun h21=>⟨⟨tv,tv⟩,tv⟩),(fun h22=>⟨⟨(fun h23=>h22),(fun h24=>h22),tv⟩,(o8 hp x0 hx0 h1 x2 hx2 h7 h22),(o9 hp x0 hx0 h1 x2 hx2 h7 h22)⟩),(fun h25=>⟨⟨(fun h26=>h25),tv⟩,tv⟩),(fun h27=>⟨⟨tv,(fun h28=>h27),(fun h29=>h27),tv⟩,⟨rfl,rfl,tv⟩,(t28 (whenS r (x0:Int) (x2:Int)) ((mach r x0).changes.getD x2 default)),tv,tv,(fun i30=>tv)⟩),(fun h31=>⟨⟨(fun h32=>h31),tv⟩,tv⟩),⟨(fun h33=>tv),(fun h34=>(o10 hp x0 hx0 h1 x2 hx2 h7 h34))⟩,tv⟩ ?_
   refine swp_cond (bif !decide (openE r (whenIs r (x0:Int) (x2:Int))=0) then true else !inside (whenS r (x0:Int) (x2:Int)) ((mach r x0).changes.getD x2 default)) (by kernel_rfl) (fun h=>by cases (h.symm.trans (o11 hp x0 hx0 h1 x2 hx2 h7))) (fun _ => ?_)
   refine swp_skip ?_
   refine sR (kt:=[1,2,5,6,4]) (kh:=[0,8,5003,20360,5005]) (q:=True/\True/\True/\True/\x0 * r.plates.toNat + x2 + 1<=65536/\True/\True/\True) (st':=ASt.mk [(1,.ptr 0 []),(2,.ptr 8 []),(5,iv (x0:Int)),(6,iv (x2:Int)),(4,.ptr 5003 [])] [(0,.cells 25 (cRun r)),(8,.cells 62 [nilv,nilv,nilv,nilv,iv 0,iv 0,iv 0]),(5003,.cells 62 [.vec 20360,nilv,nilv,.vec 5005,iv 0,iv 0,iv 0]),(20360,.vec 37 2 (x0 * r.plates.toNat + x2 + 1) (catF (x0 * r.plates.toNat + x2) (fun (k:Nat)=>cSpan (wAt r k)) fun (j:Nat)=>List.getD [[iv (whenS r (x0:Int) (x2:Int)).lo,iv (whenS r (x0:Int) (x2:Int)).hi]] j (TI.za ti37))),(5005,.vec 3 1 x0 fun (k:Nat)=>[iv (mixedS r (k:Int))])] 20384) (by kernel_rfl) ⟨tv,tv,tv,tv,(o12 hp x0 hx0 h1 x2 hx2 h7),tv,tv,tv⟩ ?_
   refine sR (kt:=[1,2,5,6,4]) (kh:=[0,8,5003,20360,5005]) (q:=True/\inI ((x2:Int) + 1)/\True/\True) (st':=ASt.mk [(1,.ptr 0 []),(2,.ptr 8 []),(5,iv (x0:Int)),(6,iv ((x2:Int) + 1)),(4,.ptr 5003 [])] [(0,.cells 25 (cRun r)),(8,.cells 62 [nilv,nilv,nilv,nilv,iv 0,iv 0,iv 0]),(5003,.cells 62 [.vec 20360,nilv,nilv,.vec 5005,iv 0,iv 0,iv 0]),(20360,.vec 37 2 (x0 * r.plates.toNat + x2 + 1) (catF (x0 * r.plates.toNat + x2) (fun (k:Nat)=>cSpan (wAt r k)) fun (j:Nat)=>List.getD [[iv (whenS r (x0:Int) (x2:Int)).lo,iv (whenS r (x0:Int) (x2:Int)).hi]] j (TI.za ti37))),(5005,.vec 3 1 x0 fun (k:Nat)=>[iv (mixedS r (k:Int))])] 20408) (by kernel_rfl) ⟨tv,(o13 hp x0 hx0 h1 x2 hx2 h7),tv,tv⟩ ?_
   exact loop_next (Hint.ann (h47b r x0) [(1,AV.ptr 0 []),(2,AV.ptr 8 []),(5,iv (x0:Int))] [(0,OB.cells 25 (cRun r)),(8,OB.cells 62 [nilv,nilv,nilv,nilv,iv 0,iv 0,iv 0])] 20088) x2 (ent_q hE [] [(0,.same 0),(8,.same 8),(5003,.same 5003),(5004,.same 20360),(5005,.same 5005)] [5] [0,8,5005] (((some (Src.same 0)=some (Src.same 0)/\nilP = [])/\(some (Src.same 8)=some (Src.same 8)/\nilP = [])/\(iv (x0:Int)=iv (x0:Int)/\true=true)/\(iv ((x2:Int) + 1)=iv (↑(x2 + 1):Int)/\nilN = [])/\(some (Src.same 5003)=some (Src.same 5003)/\nilP = [])/\True)/\((OB.cells 25 (cRun r)=OB.cells 25 (cRun r)/\true=true)/\(OB.cells 62 [nilv,nilv,nilv,nilv,iv 0,iv 0,iv 0]=OB.cells 62 [nilv,nilv,nilv,nilv,iv 0,iv 0,iv 0]/\true=true)/\(62=62/\(some (Src.same 20360)=some (Src.same 20360)/\(nilv=nilv/\nilN = [])/\(nilv=nilv/\nilN = [])/\some (Src.same 5005)=some (Src.same 5005)/\(iv 0=iv 0/\nilN = [])/\(iv 0=iv 0/\nilN = [])/\(iv 0=iv 0/\nilN = [])/\True)/\true=true)/\(37=37/\2=2/\x0 * r.plates.toNat + x2 + 1=x0 * r.plates.toNat + (x2 + 1) /\ ∀ (i35:Nat),i35 < x0 * r.plates.toNat + x2 + 1->catF (x0 * r.plates.toNat + x2) (fun (k:Nat)=>cSpan (wAt r k)) (fun (j:Nat)=>List.getD [[iv (whenS r (x0:Int) (x2:Int)).lo,iv (whenS r (x0:Int) (x2:Int)).hi]] j (TI.za ti37)) i35=cSpan (wAt r i35))/\(((OB.vec 3 1 x0 fun (k:Nat)=>[iv (mixedS r (k:Int))])=OB.vec 3 1 x0 fun (k:Nat)=>[iv (mixedS r (k:Int))])/\true=true)/\True)/\T2) (by kernel_rfl) (by kernel_rfl) ⟨⟨⟨rfl,rfl⟩,⟨rfl,rfl⟩,⟨rfl,rfl⟩,⟨(congrArg iv (o14 hp x0 hx0 h1 x2 hx2 h7)),rfl⟩,⟨rfl,rfl⟩,tv⟩,⟨⟨rfl,rfl⟩,⟨rfl,rfl⟩,⟨rfl,⟨rfl,⟨rfl,rfl⟩,⟨rfl,rfl⟩,rfl,⟨rfl,rfl⟩,⟨rfl,rfl⟩,⟨rfl,rfl⟩,tv⟩,rfl⟩,⟨rfl,rfl,(o15 hp x0 hx0 h1 x2 hx2 h7),(fun i35=>(fun h36=>(o16 hp x0 hx0 h1 x2 hx2 h7 i35 h36)))⟩,⟨rfl,rfl⟩,tv⟩,rfl,rfl⟩) (o17 hp x0 hx0 h1 x2 hx2 h7) (o18 hp x0 hx0 h1 x2 hx2 h7)
  ·refine swp_exit (swp_seq ?_)
   refine swp_region T0_ok mixed (cs:=[(2,CallSpec.eq (s65 r (x0:Int)) [true,true])]) (kt:=[1,2,5,4,9,10]) (kh:=[0,8,5003,5004,5005]) (q:=True/\True/\((AV.agg (cRun r)=AV.agg (cRun r)/\iv (x0:Int)=iv (x0:Int)/\True)/\Triple Try.prog 65 (s65 r (x0:Int))/\fits r/\True /\ ∀ (i37:Env),True)/\True/\True/\True/\True/\True/\True) (st':=ASt.mk [(1,.ptr 0 []),(2,.ptr 8 []),(5,iv (x0:Int)),(4,.ptr 5003 []),(9,iv (mixedS r (x0:Int))),(10,iv (openE r (isMachine r (x0:Int))))] [(0,.cells 25 (cRun r)),(8,.cells 62 [nilv,nilv,nilv,nilv,iv 0,iv 0,iv 0]),(5003,.cells 62 [.vec 5004,nilv,nilv,.vec 5005,iv 0,iv 0,iv 0]),(5004,.vec 37 2 (x0 * r.plates.toNat + x2) fun (k:Nat)=>cSpan (wAt r k)),(5005,.vec 3 1 x0 fun (k:Nat)=>[iv (mixedS r (k:Int))])] 20184) (by kernel_rfl) ⟨tv,tv,⟨⟨rfl,rfl,tv⟩,(t65 (r) ((x0:Int))),hp.1,tv,(fun i37=>tv)⟩,tv,tv,tv,tv,tv,tv⟩ ?_
   refine swp_seq (swp_seq ?_)
   refine swp_region T0_ok mixed (cs:=[(4,CallSpec.eq (s24 (mixedS r (x0:Int)) 1 3) [true,true,true])]) (kt:=[1,2,5,4,9,76]) (kh:=[0,8,5003,5004,5005]) (q:=True/\True/\True/\((!!decide (openE r (isMachine r (x0:Int))=0))->(True/\True)/\True)/\((!!decide (openE r (isMachine r (x0:Int))=0))->(True/\((!!decide (openE r (isMachine r (x0:Int))=0))->(!!decide (openE r (isMachine r (x0:Int))=0))=true)/\True/\True/\True)/\(iv (mixedS r (x0:Int))=iv (mixedS r (x0:Int))/\iv 1=iv 1/\iv 3=iv 3/\True)/\Triple Try.prog 24 (s24 (mixedS r (x0:Int)) 1 3)/\True/\True /\ ∀ (i41:Env),True)/\((!!decide (openE r (isMachine r (x0:Int))=0))->(((!!decide (openE r (isMachine r (x0:Int))=0))->(!!decide (openE r (isMachine r (x0:Int))=0))=true)/\True)/\True)/\(((!decide (openE r (isMachine r (x0:Int))=0))->True)/\((!decide (openE r (isMachine r (x0:Int))=0))=false->(!!decide (openE r (isMachine r (x0:Int))=0))=true))/\True) (st':=ASt.mk [(1,.ptr 0 []),(2,.ptr 8 []),(5,iv (x0:Int)),(4,.ptr 5003 []),(9,iv (mixedS r (x0:Int))),(76,bv (bif !decide (openE r (isMachine r (x0:Int))=0) then true else !within (mixedS r (x0:Int)) 1 3))] [(0,.cells 25 (cRun r)),(8,.cells 62 [nilv,nilv,nilv,nilv,iv 0,iv 0,iv 0]),(5003,.cells 62 [.vec 5004,nilv,nilv,.vec 5005,iv 0,iv 0,iv 0]),(5004,.vec 37 2 (x0 * r.plates.toNat + x2) fun (k:Nat)=>cSpan (wAt r k)),(5005,.vec 3 1 x0 fun (k:Nat)=>[iv (mixedS r (k:Int))])] 20240) (by kernel_rfl) ⟨tv,tv,tv,(fun h38=>⟨⟨tv,tv⟩,tv⟩),(fun h39=>⟨⟨tv,(fun h40=>h39),tv,tv,tv⟩,⟨rfl,rfl,rfl,tv⟩,(t24 (mixedS r (x0:Int)) (1) (3)),tv,tv,(fun i41=>tv)⟩),(fun h42=>⟨⟨(fun h43=>h42),tv⟩,tv⟩),⟨(fun h44=>tv),(fun h45=>(o19 hp x0 hx0 h1 x2 hx2 h7 h45))⟩,tv⟩ ?_
   refine swp_cond (bif !decide (openE r (isMachine r (x0:Int))=0) then true else !within (mixedS r (x0:Int)) 1 3) (by kernel_rfl) (fun h=>by cases (h.symm.trans (o20 hp x0 hx0 h1 x2 hx2 h7))) (fun _ => ?_)
   refine swp_skip ?_
   refine sR (kt:=[1,2,5,4]) (kh:=[0,8,5003,5004,20272]) (q:=True/\True/\True/\True/\x0 + 1<=65536/\True/\True/\True) (st':=ASt.mk [(1,.ptr 0 []),(2,.ptr 8 []),(5,iv (x0:Int)),(4,.ptr 5003 [])] [(0,.cells 25 (cRun r)),(8,.cells 62 [nilv,nilv,nilv,nilv,iv 0,iv 0,iv 0]),(5003,.cells 62 [.vec 5004,nilv,nilv,.vec 20272,iv 0,iv 0,iv 0]),(5004,.vec 37 2 (x0 * r.plates.toNat + x2) fun (k:Nat)=>cSpan (wAt r k)),(20272,.vec 3 1 (x0 + 1) (catF x0 (fun (k:Nat)=>[iv (mixedS r (k:Int))]) fun (j:Nat)=>List.getD [[iv (mixedS r (x0:Int))]] j (TI.za ti3)))] 20296) (by kernel_rfl) ⟨tv,tv,tv,tv,(o21 hp x0 hx0 h1 x2 hx2 h7),tv,tv,tv⟩ ?_
   refine sR (kt:=[1,2,5,4]) (kh:=[0,8,5003,5004,20272]) (q:=True/\inI ((x0:Int) + 1)/\True/\True) (st':=ASt.mk [(1,.ptr 0 []),(2,.ptr 8 []),(5,iv ((x0:Int) + 1)),(4,.ptr 5003 [])] [(0,.cells 25 (cRun r)),(8,.cells 62 [nilv,nilv,nilv,nilv,iv 0,iv 0,iv 0]),(5003,.cells 62 [.vec 5004,nilv,nilv,.vec 20272,iv 0,iv 0,iv 0]),(5004,.vec 37 2 (x0 * r.plates.toNat + x2) fun (k:Nat)=>cSpan (wAt r k)),(20272,.vec 3 1 (x0 + 1) (catF x0 (fun (k:Nat)=>[iv (mixedS r (k:Int))]) fun (j:Nat)=>List.getD [[iv (mixedS r (x0:Int))]] j (TI.za ti3)))] 20320) (by kernel_rfl) ⟨tv,(o22 hp x0 hx0 h1 x2 hx2 h7),tv,tv⟩ ?_
   exact loop_next (Hint.ann (h47a r) [(1,AV.ptr 0 []),(2,AV.ptr 8 [])] [(0,OB.cells 25 (cRun r)),(8,OB.cells 62 [nilv,nilv,nilv,nilv,iv 0,iv 0,iv 0])] 10040) x0 (ent_q hE [] [(0,.same 0),(8,.same 8),(5000,.same 5003),(5001,.same 5004),(5002,.same 20272)] [] [0,8] (((some (Src.same 0)=some (Src.same 0)/\nilP = [])/\(some (Src.same 8)=some (Src.same 8)/\nilP = [])/\(iv ((x0:Int) + 1)=iv (↑(x0 + 1):Int)/\nilN = [])/\(some (Src.same 5003)=some (Src.same 5003)/\nilP = [])/\True)/\((OB.cells 25 (cRun r)=OB.cells 25 (cRun r)/\true=true)/\(OB.cells 62 [nilv,nilv,nilv,nilv,iv 0,iv 0,iv 0]=OB.cells 62 [nilv,nilv,nilv,nilv,iv 0,iv 0,iv 0]/\true=true)/\(62=62/\(some (Src.same 5004)=some (Src.same 5004)/\(nilv=nilv/\nilN = [])/\(nilv=nilv/\nilN = [])/\some (Src.same 20272)=some (Src.same 20272)/\(iv 0=iv 0/\nilN = [])/\(iv 0=iv 0/\nilN = [])/\(iv 0=iv 0/\nilN = [])/\True)/\true=true)/\(37=37/\2=2/\x0 * r.plates.toNat + x2=(x0 + 1) * r.plates.toNat /\ ∀ (i46:Nat),i46 < x0 * r.plates.toNat + x2->cSpan (wAt r i46)=cSpan (wAt r i46))/\(3=3/\1=1/\x0 + 1=x0 + 1 /\ ∀ (i48:Nat),i48 < x0 + 1->catF x0 (fun (k:Nat)=>[iv (mixedS r (k:Int))]) (fun (j:Nat)=>List.getD [[iv (mixedS r (x0:Int))]] j (TI.za ti3)) i48 = [iv (mixedS r (i48:Int))])/\True)/\T2) (by kernel_rfl) (by kernel_rfl) ⟨⟨⟨rfl,rfl⟩,⟨rfl,rfl⟩,⟨(congrArg iv (o23 hp x0 hx0 h1 x2 hx2 h7)),rfl⟩,⟨rfl,rfl⟩,tv⟩,⟨⟨rfl,rfl⟩,⟨rfl,rfl⟩,⟨rfl,⟨rfl,⟨rfl,rfl⟩,⟨rfl,rfl⟩,rfl,⟨rfl,rfl⟩,⟨rfl,rfl⟩,⟨rfl,rfl⟩,tv⟩,rfl⟩,⟨rfl,rfl,(o24 hp x0 hx0 h1 x2 hx2 h7),(fun i46=>(fun h47=>rfl))⟩,⟨rfl,rfl,rfl,(fun i48=>(fun h49=>(o25 hp x0 hx0 h1 x2 hx2 h7 i48 h49)))⟩,tv⟩,rfl,rfl⟩) (o26 hp x0 hx0 h1 x2 hx2 h7) (o27 hp x0 hx0 h1 x2 hx2 h7)
 ·refine swp_exit (swp_seq (swp_seq ?_))
  refine sR (kt:=[1,2,4,11]) (kh:=[0,8,5000,5001,5002]) (q:=True/\True) (st':=ASt.mk [(1,.ptr 0 []),(2,.ptr 8 []),(4,.ptr 5000 []),(11,iv 0)] [(0,.cells 25 (cRun r)),(8,.cells 62 [nilv,nilv,nilv,nilv,iv 0,iv 0,iv 0]),(5000,.cells 62 [.vec 5001,nilv,nilv,.vec 5002,iv 0,iv 0,iv 0]),(5001,.vec 37 2 (x0 * r.plates.toNat) fun (k:Nat)=>cSpan (wAt r k)),(5002,.vec 3 1 x0 fun (k:Nat)=>[iv (mixedS r (k:Int))])] 10088) (by kernel_rfl) ⟨tv,tv⟩ ?_
  refine swp_block ?_
  refine swp_loopA (Hint.ann (h47c r) [(1,AV.ptr 0 []),(2,AV.ptr 8 [])] [(0,OB.cells 25 (cRun r)),(8,OB.cells 62 [nilv,nilv,nilv,nilv,iv 0,iv 0,iv 0])] 20088) (ent_q hE [] [(0,.same 0),(8,.same 8),(5006,.same 5000),(5007,.same 5001),(5008,.nil),(5009,.same 5002)] [] [0,8] (((some (Src.same 0)=some (Src.same 0)/\nilP = [])/\(some (Src.same 8)=some (Src.same 8)/\nilP = [])/\(iv 0=iv (↑0:Int)/\nilN = [])/\(some (Src.same 5000)=some (Src.same 5000)/\nilP = [])/\True)/\((OB.cells 25 (cRun r)=OB.cells 25 (cRun r)/\true=true)/\(OB.cells 62 [nilv,nilv,nilv,nilv,iv 0,iv 0,iv 0]=OB.cells 62 [nilv,nilv,nilv,nilv,iv 0,iv 0,iv 0]/\true=true)/\(62=62/\(some (Src.same 5001)=some (Src.same 5001)/\some Src.nil=some Src.nil/\(nilv=nilv/\nilN = [])/\some (Src.same 5002)=some (Src.same 5002)/\(iv 0=iv 0/\nilN = [])/\(iv 0=iv 0/\nilN = [])/\(iv 0=iv 0/\nilN = [])/\True)/\true=true)/\(37=37/\2=2/\x0 * r.plates.toNat=r.machines.length * r.plates.toNat /\ ∀ (i51:Nat),i51 < x0 * r.plates.toNat->cSpan (wAt r i51)=cSpan (wAt r i51))/\0=0/\(3=3/\1=1/\x0=r.machines.length /\ ∀ (i53:Nat),i53 < x0 -> [iv (mixedS r (i53:Int))] = [iv (mixedS r (i53:Int))])/\True)/\T2) (by kernel_rfl) (by kernel_rfl) ⟨⟨⟨rfl,rfl⟩,⟨rfl,rfl⟩,⟨(congrArg iv (o28 hp x0 hx0 h1)),rfl⟩,⟨rfl,rfl⟩,tv⟩,⟨⟨rfl,rfl⟩,⟨rfl,rfl⟩,⟨rfl,⟨rfl,rfl,⟨rfl,rfl⟩,rfl,⟨rfl,rfl⟩,⟨rfl,rfl⟩,⟨rfl,rfl⟩,tv⟩,rfl⟩,⟨rfl,rfl,(o29 hp x0 hx0 h1),(fun i51=>(fun h52=>rfl))⟩,rfl,⟨rfl,rfl,(o30 hp x0 hx0 h1),(fun i53=>(fun h54=>rfl))⟩,tv⟩,rfl,rfl⟩) (o31 hp x0 hx0 h1) (fun (x50:Nat) hx50 => ?_)
  refine swp_seq (swp_seq ?_)
  refine sR (kt:=[1,2,11,4,87]) (kh:=[0,8,5006,5007,5008,5009]) (q:=True/\True/\True/\True/\True) (st':=ASt.mk [(1,.ptr 0 []),(2,.ptr 8 []),(11,iv (x50:Int)),(4,.ptr 5006 []),(87,bv (decide ((x50:Int) < r.plates)))] [(0,.cells 25 (cRun r)),(8,.cells 62 [nilv,nilv,nilv,nilv,iv 0,iv 0,iv 0]),(5006,.cells 62 [.vec 5007,.vec 5008,nilv,.vec 5009,iv 0,iv 0,iv 0]),(5007,.vec 37 2 (r.machines.length * r.plates.toNat) fun (k:Nat)=>cSpan (wAt r k)),(5008,.vec 37 2 x50 fun (k:Nat)=>cSpan (oldS r (k:Int))),(5009,.vec 3 1 r.machines.length fun (k:Nat)=>[iv (mixedS r (k:Int))])] 20120) (by kernel_rfl) ⟨tv,tv,tv,tv,tv⟩ ?_
  refine swp_cond (decide ((x50:Int) < r.plates)) (by kernel_rfl) (fun h55 => ?_) (fun h55 => ?_)
  ·refine swp_skip (swp_seq (swp_block (swp_seq ?_)))
   refine swp_region T0_ok mixed (cs:=[(2,CallSpec.eq (s26 r (x50:Int)) [true,true])]) (kt:=[1,2,11,4,12,13]) (kh:=[0,8,5006,20168,5007,5008,5009]) (q:=True/\True/\((AV.agg (cRun r)=AV.agg (cRun r)/\iv (x50:Int)=iv (x50:Int)/\True)/\Triple Try.prog 26 (s26 r (x50:Int))/\fits r/\True /\ ∀ (i56:Env),True)/\True/\True/\True/\True/\True/\True/\True) (st':=ASt.mk [(1,.ptr 0 []),(2,.ptr 8 []),(11,iv (x50:Int)),(4,.ptr 5006 []),(12,.ptr 20168 []),(13,iv (openE r (isPlate r (x50:Int))))] [(0,.cells 25 (cRun r)),(8,.cells 62 [nilv,nilv,nilv,nilv,iv 0,iv 0,iv 0]),(5006,.cells 62 [.vec 5007,.vec 5008,nilv,.vec 5009,iv 0,iv 0,iv 0]),(20168,.cells 37 (cSpan (oldS r (x50:Int)))),(5007,.vec 37 2 (r.machines.length * r.plates.toNat) fun (k:Nat)=>cSpan (wAt r k)),(5008,.vec 37 2 x50 fun (k:Nat)=>cSpan (oldS r (k:Int))),(5009,.vec 3 1 r.machines.length fun (k:Nat)=>[iv (mixedS r (k:Int))])] 20192) (by kernel_rfl) ⟨tv,tv,⟨⟨rfl,rfl,tv⟩,(t26 (r) ((x50:Int))),hp.1,tv,(fun i56=>tv)⟩,tv,tv,tv,tv,tv,tv,tv⟩ ?_
   refine swp_seq (swp_seq ?_)
   refine swp_region T0_ok mixed (cs:=[(4,CallSpec.eq (s29 0 810) [true,true]),(5,CallSpec.eq (s28 (oldS r (x50:Int)) (Span.mk 0 810)) [true,true])]) (kt:=[1,2,11,4,12,103]) (kh:=[0,8,5006,20168,5007,5008,5009]) (q:=True/\True/\True/\((!!decide (openE r (isPlate r (x50:Int))=0))->(True/\True)/\True)/\((!!decide (openE r (isPlate r (x50:Int))=0))->(True/\True/\True/\True)/\(iv 0=iv 0/\iv 810=iv 810/\True)/\Triple Try.prog 29 (s29 0 810)/\True/\True /\ ∀ (i59:Env),True)/\((!!decide (openE r (isPlate r (x50:Int))=0))->(True/\((!!decide (openE r (isPlate r (x50:Int))=0))->(!!decide (openE r (isPlate r (x50:Int))=0))=true)/\((!!decide (openE r (isPlate r (x50:Int))=0))->(!!decide (openE r (isPlate r (x50:Int))=0))=true)/\True)/\(AV.agg (cSpan (oldS r (x50:Int)))=AV.agg (cSpan (oldS r (x50:Int)))/\AV.agg (cSpan (Span.mk 0 810))=AV.agg (cSpan (Span.mk 0 810))/\True)/\Triple Try.prog 28 (s28 (oldS r (x50:Int)) (Span.mk 0 810))/\True/\True /\ ∀ (i63:Env),True)/\((!!decide (openE r (isPlate r (x50:Int))=0))->(((!!decide (openE r (isPlate r (x50:Int))=0))->(!!decide (openE r (isPlate r (x50:Int))=0))=true)/\True)/\True)/\(((!decide (openE r (isPlate r (x50:Int))=0))->True)/\((!decide (openE r (isPlate r (x50:Int))=0))=false->(!!decide (openE r (isPlate r (x50:Int))=0))=true))/\True) (st':=ASt.mk [(1,.ptr 0 []),(2,.ptr 8 []),(11,iv (x50:Int)),(4,.ptr 5006 []),(12,.ptr 20168 []),(103,bv (bif !decide (openE r (isPlate r (x50:Int))=0) then true else !inside (oldS r (x50:Int)) (Span.mk 0 810)))] [(0,.cells 25 (cRun r)),(8,.cells 62 [nilv,nilv,nilv,nilv,iv 0,iv 0,iv 0]),(5006,.cells 62 [.vec 5007,.vec 5008,nilv,.vec 5009,iv 0,iv 0,iv 0]),(20168,.cells 37 (cSpan (oldS r (x50:Int)))),(5007,.vec 37 2 (r.machines.length * r.plates.toNat) fun (k:Nat)=>cSpan (wAt r k)),(5008,.vec 37 2 x50 fun (k:Nat)=>cSpan (oldS r (k:Int))),(5009,.vec 3 1 r.machines.length fun (k:Nat)=>[iv (mixedS r (k:Int))])] 20256) (by kernel_rfl) ⟨tv,tv,tv,(fun h57=>⟨⟨tv,tv⟩,tv⟩),(fun h58=>⟨⟨tv,tv,tv,tv⟩,⟨rfl,rfl,tv⟩,(t29 (0) (810)),tv,tv,(fun i59=>tv)⟩),(fun h60=>⟨⟨tv,(fun h61=>h60),(fun h62=>h60),tv⟩,⟨rfl,rfl,tv⟩,(t28 (oldS r (x50:Int)) (Span.mk 0 810)),tv,tv,(fun i63=>tv)⟩),(fun h64=>⟨⟨(fun h65=>h64),tv⟩,tv⟩),⟨(fun h66=>tv),(fun h67=>(o32 hp x0 hx0 h1 x50 hx50 h55 h67))⟩,tv⟩ ?_
   refine swp_cond (bif !decide (openE r (isPlate r (x50:Int))=0) then true else !inside (oldS r (x50:Int)) (Span.mk 0 810)) (by kernel_rfl) (fun h=>by cases (h.symm.trans (o33 hp x0 hx0 h1 x50 hx50 h55))) (fun _ => ?_)
   refine swp_skip ?_
   refine sR (kt:=[1,2,11,4]) (kh:=[0,8,5006,5007,20288,5009]) (q:=True/\True/\True/\True/\x50 + 1<=65536/\True/\True/\True) (st':=ASt.mk [(1,.ptr 0 []),(2,.ptr 8 []),(11,iv (x50:Int)),(4,.ptr 5006 [])] [(0,.cells 25 (cRun r)),(8,.cells 62 [nilv,nilv,nilv,nilv,iv 0,iv 0,iv 0]),(5006,.cells 62 [.vec 5007,.vec 20288,nilv,.vec 5009,iv 0,iv 0,iv 0]),(5007,.vec 37 2 (r.machines.length * r.plates.toNat) fun (k:Nat)=>cSpan (wAt r k)),(20288,.vec 37 2 (x50 + 1) (catF x50 (fun (k:Nat)=>cSpan (oldS r (k:Int))) fun (j:Nat)=>List.getD [[iv (oldS r (x50:Int)).lo,iv (oldS r (x50:Int)).hi]] j (TI.za ti37))),(5009,.vec 3 1 r.machines.length fun (k:Nat)=>[iv (mixedS r (k:Int))])] 20312) (by kernel_rfl) ⟨tv,tv,tv,tv,(o34 hp x0 hx0 h1 x50 hx50 h55),tv,tv,tv⟩ ?_
   refine sR (kt:=[1,2,11,4]) (kh:=[0,8,5006,5007,20288,5009]) (q:=True/\inI ((x50:Int) + 1)/\True/\True) (st':=ASt.mk [(1,.ptr 0 []),(2,.ptr 8 []),(11,iv ((x50:Int) + 1)),(4,.ptr 5006 [])] [(0,.cells 25 (cRun r)),(8,.cells 62 [nilv,nilv,nilv,nilv,iv 0,iv 0,iv 0]),(5006,.cells 62 [.vec 5007,.vec 20288,nilv,.vec 5009,iv 0,iv 0,iv 0]),(5007,.vec 37 2 (r.machines.length * r.plates.toNat) fun (k:Nat)=>cSpan (wAt r k)),(20288,.vec 37 2 (x50 + 1) (catF x50 (fun (k:Nat)=>cSpan (oldS r (k:Int))) fun (j:Nat)=>List.getD [[iv (oldS r (x50:Int)).lo,iv (oldS r (x50:Int)).hi]] j (TI.za ti37))),(5009,.vec 3 1 r.machines.length fun (k:Nat)=>[iv (mixedS r (k:Int))])] 20336) (by kernel_rfl) ⟨tv,(o35 hp x0 hx0 h1 x50 hx50 h55),tv,tv⟩ ?_
   exact loop_next (Hint.ann (h47c r) [(1,AV.ptr 0 []),(2,AV.ptr 8 [])] [(0,OB.cells 25 (cRun r)),(8,OB.cells 62 [nilv,nilv,nilv,nilv,iv 0,iv 0,iv 0])] 20088) x50 (ent_q hE [] [(0,.same 0),(8,.same 8),(5006,.same 5006),(5007,.same 5007),(5008,.same 20288),(5009,.same 5009)] [] [0,8,5007,5009] (((some (Src.same 0)=some (Src.same 0)/\nilP = [])/\(some (Src.same 8)=some (Src.same 8)/\nilP = [])/\(iv ((x50:Int) + 1)=iv (↑(x50 + 1):Int)/\nilN = [])/\(some (Src.same 5006)=some (Src.same 5006)/\nilP = [])/\True)/\((OB.cells 25 (cRun r)=OB.cells 25 (cRun r)/\true=true)/\(OB.cells 62 [nilv,nilv,nilv,nilv,iv 0,iv 0,iv 0]=OB.cells 62 [nilv,nilv,nilv,nilv,iv 0,iv 0,iv 0]/\true=true)/\(62=62/\(some (Src.same 5007)=some (Src.same 5007)/\some (Src.same 20288)=some (Src.same 20288)/\(nilv=nilv/\nilN = [])/\some (Src.same 5009)=some (Src.same 5009)/\(iv 0=iv 0/\nilN = [])/\(iv 0=iv 0/\nilN = [])/\(iv 0=iv 0/\nilN = [])/\True)/\true=true)/\(((OB.vec 37 2 (r.machines.length * r.plates.toNat) fun (k:Nat)=>cSpan (wAt r k))=OB.vec 37 2 (r.machines.length * r.plates.toNat) fun (k:Nat)=>cSpan (wAt r k))/\true=true)/\(37=37/\2=2/\x50 + 1=x50 + 1 /\ ∀ (i68:Nat),i68 < x50 + 1->catF x50 (fun (k:Nat)=>cSpan (oldS r (k:Int))) (fun (j:Nat)=>List.getD [[iv (oldS r (x50:Int)).lo,iv (oldS r (x50:Int)).hi]] j (TI.za ti37)) i68=cSpan (oldS r (i68:Int)))/\(((OB.vec 3 1 r.machines.length fun (k:Nat)=>[iv (mixedS r (k:Int))])=OB.vec 3 1 r.machines.length fun (k:Nat)=>[iv (mixedS r (k:Int))])/\true=true)/\True)/\T2) (by kernel_rfl) (by kernel_rfl) ⟨⟨⟨rfl,rfl⟩,⟨rfl,rfl⟩,⟨(congrArg iv (o36 hp x0 hx0 h1 x50 hx50 h55)),rfl⟩,⟨rfl,rfl⟩,tv⟩,⟨⟨rfl,rfl⟩,⟨rfl,rfl⟩,⟨rfl,⟨rfl,rfl,⟨rfl,rfl⟩,rfl,⟨rfl,rfl⟩,⟨rfl,rfl⟩,⟨rfl,rfl⟩,tv⟩,rfl⟩,⟨rfl,rfl⟩,⟨rfl,rfl,rfl,(fun i68=>(fun h69=>(o37 hp x0 hx0 h1 x50 hx50 h55 i68 h69)))⟩,⟨rfl,rfl⟩,tv⟩,rfl,rfl⟩) (o38 hp x0 hx0 h1 x50 hx50 h55) (o39 hp x0 hx0 h1 x50 hx50 h55)
  ·refine swp_exit (swp_seq (swp_seq ?_))
   refine sR (kt:=[1,2,4,14]) (kh:=[0,8,5006,5007,5008,5009]) (q:=True/\True) (st':=ASt.mk [(1,.ptr 0 []),(2,.ptr 8 []),(4,.ptr 5006 []),(14,iv 0)] [(0,.cells 25 (cRun r)),(8,.cells 62 [nilv,nilv,nilv,nilv,iv 0,iv 0,iv 0]),(5006,.cells 62 [.vec 5007,.vec 5008,nilv,.vec 5009,iv 0,iv 0,iv 0]),(5007,.vec 37 2 (r.machines.length * r.plates.toNat) fun (k:Nat)=>cSpan (wAt r k)),(5008,.vec 37 2 x50 fun (k:Nat)=>cSpan (oldS r (k:Int))),(5009,.vec 3 1 r.machines.length fun (k:Nat)=>[iv (mixedS r (k:Int))])] 20128) (by kernel_rfl) ⟨tv,tv⟩ ?_
   refine swp_block ?_
   refine swp_loopA (Hint.ann (h47d r) [(1,AV.ptr 0 []),(2,AV.ptr 8 [])] [(0,OB.cells 25 (cRun r)),(8,OB.cells 62 [nilv,nilv,nilv,nilv,iv 0,iv 0,iv 0])] 30128) (ent_q hE [] [(0,.same 0),(8,.same 8),(5010,.same 5006),(5011,.same 5007),(5012,.same 5008),(5013,.nil),(5014,.same 5009)] [] [0,8] (((some (Src.same 0)=some (Src.same 0)/\nilP = [])/\(some (Src.same 8)=some (Src.same 8)/\nilP = [])/\(iv 0=iv (↑0:Int)/\nilN = [])/\(some (Src.same 5006)=some (Src.same 5006)/\nilP = [])/\True)/\((OB.cells 25 (cRun r)=OB.cells 25 (cRun r)/\true=true)/\(OB.cells 62 [nilv,nilv,nilv,nilv,iv 0,iv 0,iv 0]=OB.cells 62 [nilv,nilv,nilv,nilv,iv 0,iv 0,iv 0]/\true=true)/\(62=62/\(some (Src.same 5007)=some (Src.same 5007)/\some (Src.same 5008)=some (Src.same 5008)/\some Src.nil=some Src.nil/\some (Src.same 5009)=some (Src.same 5009)/\(iv 0=iv 0/\nilN = [])/\(iv 0=iv 0/\nilN = [])/\(iv 0=iv 0/\nilN = [])/\True)/\true=true)/\(37=37/\2=2/\r.machines.length * r.plates.toNat=r.machines.length * r.plates.toNat /\ ∀ (i71:Nat),i71 < r.machines.length * r.plates.toNat->cSpan (wAt r i71)=cSpan (wAt r i71))/\(37=37/\2=2/\x50=r.plates.toNat /\ ∀ (i73:Nat),i73 < x50->cSpan (oldS r (i73:Int))=cSpan (oldS r (i73:Int)))/\0=0/\(3=3/\1=1/\r.machines.length=r.machines.length /\ ∀ (i75:Nat),i75 < r.machines.length -> [iv (mixedS r (i75:Int))] = [iv (mixedS r (i75:Int))])/\True)/\T2) (by kernel_rfl) (by kernel_rfl) ⟨⟨⟨rfl,rfl⟩,⟨rfl,rfl⟩,⟨(congrArg iv (o40 hp x0 hx0 h1 x50 hx50 h55)),rfl⟩,⟨rfl,rfl⟩,tv⟩,⟨⟨rfl,rfl⟩,⟨rfl,rfl⟩,⟨rfl,⟨rfl,rfl,rfl,rfl,⟨rfl,rfl⟩,⟨rfl,rfl⟩,⟨rfl,rfl⟩,tv⟩,rfl⟩,⟨rfl,rfl,rfl,(fun i71=>(fun h72=>rfl))⟩,⟨rfl,rfl,(o41 hp x0 hx0 h1 x50 hx50 h55),(fun i73=>(fun h74=>rfl))⟩,rfl,⟨rfl,rfl,rfl,(fun i75=>(fun h76=>rfl))⟩,tv⟩,rfl,rfl⟩) (o42 hp x0 hx0 h1 x50 hx50 h55) (fun (x70:Nat) hx70 => ?_)
   refine swp_seq (swp_seq ?_)
   refine sR (kt:=[1,2,14,4,115]) (kh:=[0,8,5010,5011,5012,5013,5014]) (q:=True/\True/\True/\True/\True/\True) (st':=ASt.mk [(1,.ptr 0 []),(2,.ptr 8 []),(14,iv (x70:Int)),(4,.ptr 5010 []),(115,bv (decide ((x70:Int) < (↑(r.found.length):Int))))] [(0,.cells 25 (cRun r)),(8,.cells 62 [nilv,nilv,nilv,nilv,iv 0,iv 0,iv 0]),(5010,.cells 62 [.vec 5011,.vec 5012,.vec 5013,.vec 5014,iv 0,iv 0,iv 0]),(5011,.vec 37 2 (r.machines.length * r.plates.toNat) fun (k:Nat)=>cSpan (wAt r k)),(5012,.vec 37 2 r.plates.toNat fun (k:Nat)=>cSpan (oldS r (k:Int))),(5013,.vec 30 1 x70 fun (k:Nat)=>[aInts (whereS r (k:Int))]),(5014,.vec 3 1 r.machines.length fun (k:Nat)=>[iv (mixedS r (k:Int))])] 30168) (by kernel_rfl) ⟨tv,tv,tv,tv,tv,tv⟩ ?_
   refine swp_cond (decide ((x70:Int) < (↑(r.found.length):Int))) (by kernel_rfl) (fun h77 => ?_) (fun h77 => ?_)
   ·refine swp_skip (swp_seq (swp_block (swp_seq ?_)))
    refine swp_region T0_ok mixed (cs:=[(2,CallSpec.eq (s35 r (x70:Int)) [true,true])]) (kt:=[1,2,14,4,15,16]) (kh:=[0,8,5010,5011,5012,5013,5014]) (q:=True/\True/\((AV.agg (cRun r)=AV.agg (cRun r)/\iv (x70:Int)=iv (x70:Int)/\True)/\Triple Try.prog 35 (s35 r (x70:Int))/\fits r/\True /\ ∀ (i78:Env),True)/\True/\True/\True/\True/\True/\True) (st':=ASt.mk [(1,.ptr 0 []),(2,.ptr 8 []),(14,iv (x70:Int)),(4,.ptr 5010 []),(15,aInts (whereS r (x70:Int))),(16,iv (openE r (isFound r (x70:Int))))] [(0,.cells 25 (cRun r)),(8,.cells 62 [nilv,nilv,nilv,nilv,iv 0,iv 0,iv 0]),(5010,.cells 62 [.vec 5011,.vec 5012,.vec 5013,.vec 5014,iv 0,iv 0,iv 0]),(5011,.vec 37 2 (r.machines.length * r.plates.toNat) fun (k:Nat)=>cSpan (wAt r k)),(5012,.vec 37 2 r.plates.toNat fun (k:Nat)=>cSpan (oldS r (k:Int))),(5013,.vec 30 1 x70 fun (k:Nat)=>[aInts (whereS r (k:Int))]),(5014,.vec 3 1 r.machines.length fun (k:Nat)=>[iv (mixedS r (k:Int))])] 30232) (by kernel_rfl) ⟨tv,tv,⟨⟨rfl,rfl,tv⟩,(t35 (r) ((x70:Int))),hp.1,tv,(fun i78=>tv)⟩,tv,tv,tv,tv,tv,tv⟩ ?_
    refine swp_seq (swp_seq ?_)
    refine swp_region T0_ok mixed (cs:=[(13,CallSpec.eq (s52 (whereS r (x70:Int)) 0 ((↑(r.machines.length):Int) - 1)) [false,true,true])]) (kt:=[1,2,14,4,15,139]) (kh:=[0,8,5010,5011,5012,5013,5014]) (q:=True/\True/\True/\((!!decide (openE r (isFound r (x70:Int))=0))->(True/\True)/\True)/\((!!decide (openE r (isFound r (x70:Int))=0))->(((!!decide (openE r (isFound r (x70:Int))=0))->(!!decide (openE r (isFound r (x70:Int))=0))=true)/\True)/\True)/\((!!decide (openE r (isFound r (x70:Int))=0))->(((!!decide (openE r (isFound r (x70:Int))=0))->(!!decide (openE r (isFound r (x70:Int))=0))=true)/\True/\True)/\True)/\(((!decide (openE r (isFound r (x70:Int))=0))->True)/\((!decide (openE r (isFound r (x70:Int))=0))=false->(!!decide (openE r (isFound r (x70:Int))=0))=true))/\True/\((!bif !decide (openE r (isFound r (x70:Int))=0) then true else decide ((↑((whereS r (x70:Int)).length):Int)=0))=true->(True/\True)/\True)/\((!bif !decide (openE r (isFound r (x70:Int))=0) then true else decide ((↑((whereS r (x70:Int)).length):Int)=0))=true->(True/\True)/\True)/\((!bif !decide (openE r (isFound r (x70:Int))=0) then true else decide ((↑((whereS r (x70:Int)).length):Int)=0))=true->(((!bif !decide (openE r (isFound r (x70:Int))=0) then true else decide ((↑((whereS r (x70:Int)).length):Int)=0))=true->(!bif !decide (openE r (isFound r (x70:Int))=0) then true else decide ((↑((whereS r (x70:Int)).length):Int)=0))=true)/\True)/\True)/\((!bif !decide (openE r (isFound r (x70:Int))=0) then true else decide ((↑((whereS r (x70:Int)).length):Int)=0))=true->(((!bif !decide (openE r (isFound r (x70:Int))=0) then true else decide ((↑((whereS r (x70:Int)).length):Int)=0))=true->(!bif !decide (openE r (isFound r (x70:Int))=0) then true else decide ((↑((whereS r (x70:Int)).length):Int)=0))=true)/\True)/\True)/\((!bif !decide (openE r (isFound r (x70:Int))=0) then true else decide ((↑((whereS r (x70:Int)).length):Int)=0))=true->(((!bif !decide (openE r (isFound r (x70:Int))=0) then true else decide ((↑((whereS r (x70:Int)).length):Int)=0))=true->(!bif !decide (openE r (isFound r (x70:Int))=0) then true else decide ((↑((whereS r (x70:Int)).length):Int)=0))=true)/\True/\True)/\inI ((↑(r.machines.length):Int) - 1))/\((!bif !decide (openE r (isFound r (x70:Int))=0) then true else decide ((↑((whereS r (x70:Int)).length):Int)=0))=true->(True/\((!bif !decide (openE r (isFound r (x70:Int))=0) then true else decide ((↑((whereS r (x70:Int)).length):Int)=0))=true->(!bif !decide (openE r (isFound r (x70:Int))=0) then true else decide ((↑((whereS r (x70:Int)).length):Int)=0))=true)/\True/\((!bif !decide (openE r (isFound r (x70:Int))=0) then true else decide ((↑((whereS r (x70:Int)).length):Int)=0))=true->(!bif !decide (openE r (isFound r (x70:Int))=0) then true else decide ((↑((whereS r (x70:Int)).length):Int)=0))=true)/\True)/\((1=1/\(whereS r (x70:Int)).length=(whereS r (x70:Int)).length /\ ∀ (i97:Nat),i97 < (whereS r (x70:Int)).length -> [iv ((whereS r (x70:Int)).getD i97 0)] = [iv ((whereS r (x70:Int)).getD i97 0)])/\iv 0=iv 0/\iv ((↑(r.machines.length):Int) - 1)=iv ((↑(r.machines.length):Int) - 1)/\True)/\Triple Try.prog 52 (s52 (whereS r (x70:Int)) 0 ((↑(r.machines.length):Int) - 1))/\(whereS r (x70:Int)).length<=1125899906842624/\True /\ ∀ (i99:Env),True)/\((!bif !decide (openE r (isFound r (x70:Int))=0) then true else decide ((↑((whereS r (x70:Int)).length):Int)=0))=true->(((!bif !decide (openE r (isFound r (x70:Int))=0) then true else decide ((↑((whereS r (x70:Int)).length):Int)=0))=true->(!bif !decide (openE r (isFound r (x70:Int))=0) then true else decide ((↑((whereS r (x70:Int)).length):Int)=0))=true)/\True)/\True)/\(((bif !decide (openE r (isFound r (x70:Int))=0) then true else decide ((↑((whereS r (x70:Int)).length):Int)=0))=true->True)/\((bif !decide (openE r (isFound r (x70:Int))=0) then true else decide ((↑((whereS r (x70:Int)).length):Int)=0))=false->(!bif !decide (openE r (isFound r (x70:Int))=0) then true else decide ((↑((whereS r (x70:Int)).length):Int)=0))=true))/\True) (st':=ASt.mk [(1,.ptr 0 []),(2,.ptr 8 []),(14,iv (x70:Int)),(4,.ptr 5010 []),(15,aInts (whereS r (x70:Int))),(139,bv (bif bif !decide (openE r (isFound r (x70:Int))=0) then true else decide ((↑((whereS r (x70:Int)).length):Int)=0) then true else !rising (whereS r (x70:Int)) 0 ((↑(r.machines.length):Int) - 1)))] [(0,.cells 25 (cRun r)),(8,.cells 62 [nilv,nilv,nilv,nilv,iv 0,iv 0,iv 0]),(5010,.cells 62 [.vec 5011,.vec 5012,.vec 5013,.vec 5014,iv 0,iv 0,iv 0]),(5011,.vec 37 2 (r.machines.length * r.plates.toNat) fun (k:Nat)=>cSpan (wAt r k)),(5012,.vec 37 2 r.plates.toNat fun (k:Nat)=>cSpan (oldS r (k:Int))),(5013,.vec 30 1 x70 fun (k:Nat)=>[aInts (whereS r (k:Int))]),(5014,.vec 3 1 r.machines.length fun (k:Nat)=>[iv (mixedS r (k:Int))])] 30360) (by kernel_rfl) ⟨tv,tv,tv,(fun h79=>⟨⟨tv,tv⟩,tv⟩),(fun h80=>⟨⟨(fun h81=>h80),tv⟩,tv⟩),(fun h82=>⟨⟨(fun h83=>h82),tv,tv⟩,tv⟩),⟨(fun h84=>tv),(fun h85=>(o43 hp x0 hx0 h1 x50 hx50 h55 x70 hx70 h77 h85))⟩,tv,(fun h86=>⟨⟨tv,tv⟩,tv⟩),(fun h87=>⟨⟨tv,tv⟩,tv⟩),(fun h88=>⟨⟨(fun h89=>h88),tv⟩,tv⟩),(fun h90=>⟨⟨(fun h91=>h90),tv⟩,tv⟩),(fun h92=>⟨⟨(fun h93=>h92),tv,tv⟩,(o44 hp x0 hx0 h1 x50 hx50 h55 x70 hx70 h77 h92)⟩),(fun h94=>⟨⟨tv,(fun h95=>h94),tv,(fun h96=>h94),tv⟩,⟨⟨rfl,rfl,(fun i97=>(fun h98=>rfl))⟩,rfl,rfl,tv⟩,(t52 (whereS r (x70:Int)) (0) ((↑(r.machines.length):Int) - 1)),(o45 hp x0 hx0 h1 x50 hx50 h55 x70 hx70 h77 h94),tv,(fun i99=>tv)⟩),(fun h100=>⟨⟨(fun h101=>h100),tv⟩,tv⟩),⟨(fun h102=>tv),(fun h103=>(o46 hp x0 hx0 h1 x50 hx50 h55 x70 hx70 h77 h103))⟩,tv⟩ ?_
    refine swp_cond (bif bif !decide (openE r (isFound r (x70:Int))=0) then true else decide ((↑((whereS r (x70:Int)).length):Int)=0) then true else !rising (whereS r (x70:Int)) 0 ((↑(r.machines.length):Int) - 1)) (by kernel_rfl) (fun h=>by cases (h.symm.trans (o47 hp x0 hx0 h1 x50 hx50 h55 x70 hx70 h77))) (fun _ => ?_)
    refine swp_skip ?_
    refine sR (kt:=[1,2,14,4]) (kh:=[0,8,5010,5011,5012,30392,5014]) (q:=True/\True/\True/\True/\x70 + 1<=65536/\True/\True/\True) (st':=ASt.mk [(1,.ptr 0 []),(2,.ptr 8 []),(14,iv (x70:Int)),(4,.ptr 5010 [])] [(0,.cells 25 (cRun r)),(8,.cells 62 [nilv,nilv,nilv,nilv,iv 0,iv 0,iv 0]),(5010,.cells 62 [.vec 5011,.vec 5012,.vec 30392,.vec 5014,iv 0,iv 0,iv 0]),(5011,.vec 37 2 (r.machines.length * r.plates.toNat) fun (k:Nat)=>cSpan (wAt r k)),(5012,.vec 37 2 r.plates.toNat fun (k:Nat)=>cSpan (oldS r (k:Int))),(30392,.vec 30 1 (x70 + 1) (catF x70 (fun (k:Nat)=>[aInts (whereS r (k:Int))]) fun (j:Nat)=>List.getD [[.sl 1 (whereS r (x70:Int)).length fun (i:Nat)=>[iv ((whereS r (x70:Int)).getD i 0)]]] j (TI.za ti30))),(5014,.vec 3 1 r.machines.length fun (k:Nat)=>[iv (mixedS r (k:Int))])] 30416) (by kernel_rfl) ⟨tv,tv,tv,tv,(o48 hp x0 hx0 h1 x50 hx50 h55 x70 hx70 h77),tv,tv,tv⟩ ?_
    refine sR (kt:=[1,2,14,4]) (kh:=[0,8,5010,5011,5012,30392,5014]) (q:=True/\inI ((x70:Int) + 1)/\True/\True) (st':=ASt.mk [(1,.ptr 0 []),(2,.ptr 8 []),(14,iv ((x70:Int) + 1)),(4,.ptr 5010 [])] [(0,.cells 25 (cRun r)),(8,.cells 62 [nilv,nilv,nilv,nilv,iv 0,iv 0,iv 0]),(5010,.cells 62 [.vec 5011,.vec 5012,.vec 30392,.vec 5014,iv 0,iv 0,iv 0]),(5011,.vec 37 2 (r.machines.length * r.plates.toNat) fun (k:Nat)=>cSpan (wAt r k)),(5012,.vec 37 2 r.plates.toNat fun (k:Nat)=>cSpan (oldS r (k:Int))),(30392,.vec 30 1 (x70 + 1) (catF x70 (fun (k:Nat)=>[aInts (whereS r (k:Int))]) fun (j:Nat)=>List.getD [[.sl 1 (whereS r (x70:Int)).length fun (i:Nat)=>[iv ((whereS r (x70:Int)).getD i 0)]]] j (TI.za ti30))),(5014,.vec 3 1 r.machines.length fun (k:Nat)=>[iv (mixedS r (k:Int))])] 30440) (by kernel_rfl) ⟨tv,(o49 hp x0 hx0 h1 x50 hx50 h55 x70 hx70 h77),tv,tv⟩ ?_
    exact loop_next (Hint.ann (h47d r) [(1,AV.ptr 0 []),(2,AV.ptr 8 [])] [(0,OB.cells 25 (cRun r)),(8,OB.cells 62 [nilv,nilv,nilv,nilv,iv 0,iv 0,iv 0])] 30128) x70 (ent_q hE [] [(0,.same 0),(8,.same 8),(5010,.same 5010),(5011,.same 5011),(5012,.same 5012),(5013,.same 30392),(5014,.same 5014)] [] [0,8,5011,5012,5014] (((some (Src.same 0)=some (Src.same 0)/\nilP = [])/\(some (Src.same 8)=some (Src.same 8)/\nilP = [])/\(iv ((x70:Int) + 1)=iv (↑(x70 + 1):Int)/\nilN = [])/\(some (Src.same 5010)=some (Src.same 5010)/\nilP = [])/\True)/\((OB.cells 25 (cRun r)=OB.cells 25 (cRun r)/\true=true)/\(OB.cells 62 [nilv,nilv,nilv,nilv,iv 0,iv 0,iv 0]=OB.cells 62 [nilv,nilv,nilv,nilv,iv 0,iv 0,iv 0]/\true=true)/\(62=62/\(some (Src.same 5011)=some (Src.same 5011)/\some (Src.same 5012)=some (Src.same 5012)/\some (Src.same 30392)=some (Src.same 30392)/\some (Src.same 5014)=some (Src.same 5014)/\(iv 0=iv 0/\nilN = [])/\(iv 0=iv 0/\nilN = [])/\(iv 0=iv 0/\nilN = [])/\True)/\true=true)/\(((OB.vec 37 2 (r.machines.length * r.plates.toNat) fun (k:Nat)=>cSpan (wAt r k))=OB.vec 37 2 (r.machines.length * r.plates.toNat) fun (k:Nat)=>cSpan (wAt r k))/\true=true)/\(((OB.vec 37 2 r.plates.toNat fun (k:Nat)=>cSpan (oldS r (k:Int)))=OB.vec 37 2 r.plates.toNat fun (k:Nat)=>cSpan (oldS r (k:Int)))/\true=true)/\(30=30/\1=1/\x70 + 1=x70 + 1 /\ ∀ (i104:Nat),i104 < x70 + 1->catF x70 (fun (k:Nat)=>[aInts (whereS r (k:Int))]) (fun (j:Nat)=>List.getD [[AV.sl 1 (whereS r (x70:Int)).length fun (i:Nat)=>[iv ((whereS r (x70:Int)).getD i 0)]]] j (TI.za ti30)) i104 = [aInts (whereS r (i104:Int))])/\(((OB.vec 3 1 r.machines.length fun (k:Nat)=>[iv (mixedS r (k:Int))])=OB.vec 3 1 r.machines.length fun (k:Nat)=>[iv (mixedS r (k:Int))])/\true=true)/\True)/\T2) (by kernel_rfl) (by kernel_rfl) ⟨⟨⟨rfl,rfl⟩,⟨rfl,rfl⟩,⟨(congrArg iv (o50 hp x0 hx0 h1 x50 hx50 h55 x70 hx70 h77)),rfl⟩,⟨rfl,rfl⟩,tv⟩,⟨⟨rfl,rfl⟩,⟨rfl,rfl⟩,⟨rfl,⟨rfl,rfl,rfl,rfl,⟨rfl,rfl⟩,⟨rfl,rfl⟩,⟨rfl,rfl⟩,tv⟩,rfl⟩,⟨rfl,rfl⟩,⟨rfl,rfl⟩,⟨rfl,rfl,rfl,(fun i104=>(fun h105=>(o51 hp x0 hx0 h1 x50 hx50 h55 x70 hx70 h77 i104 h105)))⟩,⟨rfl,rfl⟩,tv⟩,rfl,rfl⟩) (o52 hp x0 hx0 h1 x50 hx50 h55 x70 hx70 h77) (o53 hp x0 hx0 h1 x50 hx50 h55 x70 hx70 h77)
   ·refine swp_exit (swp_seq ?_)
    refine swp_region T0_ok mixed (cs:=[(1,CallSpec.eq (s27 r) [true])]) (kt:=[1,2,4,17,18]) (kh:=[0,8,5010,30208,5011,5012,5013,5014]) (q:=True/\((AV.agg (cRun r)=AV.agg (cRun r)/\True)/\Triple Try.prog 27 (s27 r)/\fits r/\True /\ ∀ (i106:Env),True)/\True/\True/\True/\True/\True/\True/\True) (st':=ASt.mk [(1,.ptr 0 []),(2,.ptr 8 []),(4,.ptr 5010 []),(17,.ptr 30208 []),(18,iv (openE r true))] [(0,.cells 25 (cRun r)),(8,.cells 62 [nilv,nilv,nilv,nilv,iv 0,iv 0,iv 0]),(5010,.cells 62 [.vec 5011,.vec 5012,.vec 5013,.vec 5014,iv 0,iv 0,iv 0]),(30208,.cells 37 (cSpan (mixesS r))),(5011,.vec 37 2 (r.machines.length * r.plates.toNat) fun (k:Nat)=>cSpan (wAt r k)),(5012,.vec 37 2 r.plates.toNat fun (k:Nat)=>cSpan (oldS r (k:Int))),(5013,.vec 30 1 x70 fun (k:Nat)=>[aInts (whereS r (k:Int))]),(5014,.vec 3 1 r.machines.length fun (k:Nat)=>[iv (mixedS r (k:Int))])] 30232) (by kernel_rfl) ⟨tv,⟨⟨rfl,tv⟩,(t27 (r)),hp.1,tv,(fun i106=>tv)⟩,tv,tv,tv,tv,tv,tv,tv⟩ ?_
    refine swp_seq ?_
    refine swp_region T0_ok mixed (cs:=[(1,CallSpec.eq (s22 r) [true])]) (kt:=[1,2,4,17,18,19,20]) (kh:=[0,8,5010,30208,5011,5012,5013,5014]) (q:=True/\((AV.agg (cRun r)=AV.agg (cRun r)/\True)/\Triple Try.prog 22 (s22 r)/\fits r/\True /\ ∀ (i107:Env),True)/\True/\True/\True/\True/\True/\True) (st':=ASt.mk [(1,.ptr 0 []),(2,.ptr 8 []),(4,.ptr 5010 []),(17,.ptr 30208 []),(18,iv (openE r true)),(19,iv (fewP r)),(20,iv (openE r true))] [(0,.cells 25 (cRun r)),(8,.cells 62 [nilv,nilv,nilv,nilv,iv 0,iv 0,iv 0]),(5010,.cells 62 [.vec 5011,.vec 5012,.vec 5013,.vec 5014,iv 0,iv 0,iv 0]),(30208,.cells 37 (cSpan (mixesS r))),(5011,.vec 37 2 (r.machines.length * r.plates.toNat) fun (k:Nat)=>cSpan (wAt r k)),(5012,.vec 37 2 r.plates.toNat fun (k:Nat)=>cSpan (oldS r (k:Int))),(5013,.vec 30 1 x70 fun (k:Nat)=>[aInts (whereS r (k:Int))]),(5014,.vec 3 1 r.machines.length fun (k:Nat)=>[iv (mixedS r (k:Int))])] 30288) (by kernel_rfl) ⟨tv,⟨⟨rfl,tv⟩,(t22 (r)),hp.1,tv,(fun i107=>tv)⟩,tv,tv,tv,tv,tv,tv⟩ ?_
    refine swp_seq ?_
    refine sR (kt:=[1,2,4,17,18,19,20]) (kh:=[0,8,5010,30208,5011,5012,5013,5014]) (q:=True/\True/\True/\True/\True/\True/\True) (st':=ASt.mk [(1,.ptr 0 []),(2,.ptr 8 []),(4,.ptr 5010 []),(17,.ptr 30208 []),(18,iv (openE r true)),(19,iv (fewP r)),(20,iv (openE r true))] [(0,.cells 25 (cRun r)),(8,.cells 62 [nilv,nilv,nilv,nilv,iv 0,iv 0,iv 0]),(5010,.cells 62 [.vec 5011,.vec 5012,.vec 5013,.vec 5014,iv (mixesS r).lo,iv (mixesS r).hi,iv (fewP r)]),(30208,.cells 37 (cSpan (mixesS r))),(5011,.vec 37 2 (r.machines.length * r.plates.toNat) fun (k:Nat)=>cSpan (wAt r k)),(5012,.vec 37 2 r.plates.toNat fun (k:Nat)=>cSpan (oldS r (k:Int))),(5013,.vec 30 1 x70 fun (k:Nat)=>[aInts (whereS r (k:Int))]),(5014,.vec 3 1 r.machines.length fun (k:Nat)=>[iv (mixedS r (k:Int))])] 30336) (by kernel_rfl) ⟨tv,tv,tv,tv,tv,tv,tv⟩ ?_
    refine swp_seq ?_
    refine swp_region T0_ok mixed (cs:=[(9,CallSpec.eq (s29 0 810) [true,true]),(10,CallSpec.eq (s28 (mixesS r) (Span.mk 0 810)) [true,true])]) (kt:=[2,3]) (kh:=[8,5011,5012,5013,5014]) (q:=True/\True/\True/\True/\(decide (openE r true=0)=true->(True/\True)/\True)/\(decide (openE r true=0)=true->((decide (openE r true=0)=true->decide (openE r true=0)=true)/\True/\True)/\True)/\((decide (openE r true=0)=true->decide (openE r true=0)=true)/\(decide (openE r true=0)=false->True))/\True/\((bif decide (openE r true=0) then decide (openE r true=0) else false)=true->(True/\True)/\True)/\((bif decide (openE r true=0) then decide (openE r true=0) else false)=true->(True/\True/\True/\True)/\(iv 0=iv 0/\iv 810=iv 810/\True)/\Triple Try.prog 29 (s29 0 810)/\True/\True /\ ∀ (i115:Env),True)/\((bif decide (openE r true=0) then decide (openE r true=0) else false)=true->(True/\((bif decide (openE r true=0) then decide (openE r true=0) else false)=true->(bif decide (openE r true=0) then decide (openE r true=0) else false)=true)/\((bif decide (openE r true=0) then decide (openE r true=0) else false)=true->(bif decide (openE r true=0) then decide (openE r true=0) else false)=true)/\True)/\(AV.agg (cSpan (mixesS r))=AV.agg (cSpan (mixesS r))/\AV.agg (cSpan (Span.mk 0 810))=AV.agg (cSpan (Span.mk 0 810))/\True)/\Triple Try.prog 28 (s28 (mixesS r) (Span.mk 0 810))/\True/\True /\ ∀ (i119:Env),True)/\(((bif decide (openE r true=0) then decide (openE r true=0) else false)=true->(bif decide (openE r true=0) then decide (openE r true=0) else false)=true)/\((bif decide (openE r true=0) then decide (openE r true=0) else false)=false->True))/\True/\((bif bif decide (openE r true=0) then decide (openE r true=0) else false then inside (mixesS r) (Span.mk 0 810) else false)=true->(True/\True)/\True)/\((bif bif decide (openE r true=0) then decide (openE r true=0) else false then inside (mixesS r) (Span.mk 0 810) else false)=true->(((bif bif decide (openE r true=0) then decide (openE r true=0) else false then inside (mixesS r) (Span.mk 0 810) else false)=true->(bif bif decide (openE r true=0) then decide (openE r true=0) else false then inside (mixesS r) (Span.mk 0 810) else false)=true)/\True/\True)/\True)/\(((bif bif decide (openE r true=0) then decide (openE r true=0) else false then inside (mixesS r) (Span.mk 0 810) else false)=true->(bif bif decide (openE r true=0) then decide (openE r true=0) else false then inside (mixesS r) (Span.mk 0 810) else false)=true)/\((bif bif decide (openE r true=0) then decide (openE r true=0) else false then inside (mixesS r) (Span.mk 0 810) else false)=false->True))/\True/\((bif bif bif decide (openE r true=0) then decide (openE r true=0) else false then inside (mixesS r) (Span.mk 0 810) else false then decide (0<=fewP r) else false)=true->(True/\True)/\True)/\((bif bif bif decide (openE r true=0) then decide (openE r true=0) else false then inside (mixesS r) (Span.mk 0 810) else false then decide (0<=fewP r) else false)=true->(True/\True)/\True)/\((bif bif bif decide (openE r true=0) then decide (openE r true=0) else false then inside (mixesS r) (Span.mk 0 810) else false then decide (0<=fewP r) else false)=true->(((bif bif bif decide (openE r true=0) then decide (openE r true=0) else false then inside (mixesS r) (Span.mk 0 810) else false then decide (0<=fewP r) else false)=true->(bif bif bif decide (openE r true=0) then decide (openE r true=0) else false then inside (mixesS r) (Span.mk 0 810) else false then decide (0<=fewP r) else false)=true)/\True)/\True)/\((bif bif bif decide (openE r true=0) then decide (openE r true=0) else false then inside (mixesS r) (Span.mk 0 810) else false then decide (0<=fewP r) else false)=true->(((bif bif bif decide (openE r true=0) then decide (openE r true=0) else false then inside (mixesS r) (Span.mk 0 810) else false then decide (0<=fewP r) else false)=true->(bif bif bif decide (openE r true=0) then decide (openE r true=0) else false then inside (mixesS r) (Span.mk 0 810) else false then decide (0<=fewP r) else false)=true)/\True)/\True)/\((bif bif bif decide (openE r true=0) then decide (openE r true=0) else false then inside (mixesS r) (Span.mk 0 810) else false then decide (0<=fewP r) else false)=true->(((bif bif bif decide (openE r true=0) then decide (openE r true=0) else false then inside (mixesS r) (Span.mk 0 810) else false then decide (0<=fewP r) else false)=true->(bif bif bif decide (openE r true=0) then decide (openE r true=0) else false then inside (mixesS r) (Span.mk 0 810) else false then decide (0<=fewP r) else false)=true)/\((bif bif bif decide (openE r true=0) then decide (openE r true=0) else false then inside (mixesS r) (Span.mk 0 810) else false then decide (0<=fewP r) else false)=true->(bif bif bif decide (openE r true=0) then decide (openE r true=0) else false then inside (mixesS r) (Span.mk 0 810) else false then decide (0<=fewP r) else false)=true)/\True)/\True)/\(((bif bif bif decide (openE r true=0) then decide (openE r true=0) else false then inside (mixesS r) (Span.mk 0 810) else false then decide (0<=fewP r) else false)=true->(bif bif bif decide (openE r true=0) then decide (openE r true=0) else false then inside (mixesS r) (Span.mk 0 810) else false then decide (0<=fewP r) else false)=true)/\((bif bif bif decide (openE r true=0) then decide (openE r true=0) else false then inside (mixesS r) (Span.mk 0 810) else false then decide (0<=fewP r) else false)=false->True))/\True/\True/\True) (st':=ASt.mk [(2,.ptr 8 []),(3,bv (bif bif bif bif decide (openE r true=0) then decide (openE r true=0) else false then inside (mixesS r) (Span.mk 0 810) else false then decide (0<=fewP r) else false then decide (fewP r<=(↑(r.machines.length):Int)) else false))] [(8,.cells 62 [.vec 5011,.vec 5012,.vec 5013,.vec 5014,iv (mixesS r).lo,iv (mixesS r).hi,iv (fewP r)]),(5011,.vec 37 2 (r.machines.length * r.plates.toNat) fun (k:Nat)=>cSpan (wAt r k)),(5012,.vec 37 2 r.plates.toNat fun (k:Nat)=>cSpan (oldS r (k:Int))),(5013,.vec 30 1 x70 fun (k:Nat)=>[aInts (whereS r (k:Int))]),(5014,.vec 3 1 r.machines.length fun (k:Nat)=>[iv (mixedS r (k:Int))])] 30536) (by kernel_rfl) ⟨tv,tv,tv,tv,(fun h108=>⟨⟨tv,tv⟩,tv⟩),(fun h109=>⟨⟨(fun h110=>h109),tv,tv⟩,tv⟩),⟨(fun h111=>h111),(fun h112=>tv)⟩,tv,(fun h113=>⟨⟨tv,tv⟩,tv⟩),(fun h114=>⟨⟨tv,tv,tv,tv⟩,⟨rfl,rfl,tv⟩,(t29 (0) (810)),tv,tv,(fun i115=>tv)⟩),(fun h116=>⟨⟨tv,(fun h117=>h116),(fun h118=>h116),tv⟩,⟨rfl,rfl,tv⟩,(t28 (mixesS r) (Span.mk 0 810)),tv,tv,(fun i119=>tv)⟩),⟨(fun h120=>h120),(fun h121=>tv)⟩,tv,(fun h122=>⟨⟨tv,tv⟩,tv⟩),(fun h123=>⟨⟨(fun h124=>h123),tv,tv⟩,tv⟩),⟨(fun h125=>h125),(fun h126=>tv)⟩,tv,(fun h127=>⟨⟨tv,tv⟩,tv⟩),(fun h128=>⟨⟨tv,tv⟩,tv⟩),(fun h129=>⟨⟨(fun h130=>h129),tv⟩,tv⟩),(fun h131=>⟨⟨(fun h132=>h131),tv⟩,tv⟩),(fun h133=>⟨⟨(fun h134=>h133),(fun h135=>h133),tv⟩,tv⟩),⟨(fun h136=>h136),(fun h137=>tv)⟩,tv,tv,tv⟩ ?_
    refine swp_ret ?_
    exact ret_q [5011,5012,5013,5014] ((True/\True/\True)/\(((2=2/\r.machines.length * r.plates.toNat=(Tld.when (toldOf r)).length /\ ∀ (i138:Nat),i138 < (Tld.when (toldOf r)).length->cSpan (wAt r i138) = [iv ((Tld.when (toldOf r)).getD i138 default).lo,iv ((Tld.when (toldOf r)).getD i138 default).hi])/\(2=2/\r.plates.toNat=(Tld.old (toldOf r)).length /\ ∀ (i140:Nat),i140 < (Tld.old (toldOf r)).length->cSpan (oldS r (i140:Int)) = [iv ((Tld.old (toldOf r)).getD i140 default).lo,iv ((Tld.old (toldOf r)).getD i140 default).hi])/\(1=1/\x70=(Tld.whr (toldOf r)).length /\ ∀ (i142:Nat),i142 < (Tld.whr (toldOf r)).length -> [aInts (whereS r (i142:Int))] = [aInts ((Tld.whr (toldOf r)).getD i142 [])])/\(1=1/\r.machines.length=(Tld.mixed (toldOf r)).length /\ ∀ (i144:Nat),i144 < (Tld.mixed (toldOf r)).length -> [iv (mixedS r (i144:Int))] = [iv ((Tld.mixed (toldOf r)).getD i144 0)])/\(iv (mixesS r).lo=iv (Tld.mixes (toldOf r)).lo/\nilN = [])/\(iv (mixesS r).hi=iv (Tld.mixes (toldOf r)).hi/\nilN = [])/\(iv (fewP r)=iv (Tld.fewest (toldOf r))/\nilN = [])/\True)/\(bv (bif bif bif bif decide (openE r true=0) then decide (openE r true=0) else false then inside (mixesS r) (Span.mk 0 810) else false then decide (0<=fewP r) else false then decide (fewP r<=(↑(r.machines.length):Int)) else false)=bv true/\nilN = [])/\True)/\T3) (by kernel_rfl) ⟨⟨tv,tv,tv⟩,⟨⟨⟨rfl,(o54 hp x0 hx0 h1 x50 hx50 h55 x70 hx70 h77),(fun i138=>(fun h139=>(o55 hp x0 hx0 h1 x50 hx50 h55 x70 hx70 h77 i138 h139)))⟩,⟨rfl,(o56 hp x0 hx0 h1 x50 hx50 h55 x70 hx70 h77),(fun i140=>(fun h141=>(o57 hp x0 hx0 h1 x50 hx50 h55 x70 hx70 h77 i140 h141)))⟩,⟨rfl,(o58 hp x0 hx0 h1 x50 hx50 h55 x70 hx70 h77),(fun i142=>(fun h143=>(o59 hp x0 hx0 h1 x50 hx50 h55 x70 hx70 h77 i142 h143)))⟩,⟨rfl,(o60 hp x0 hx0 h1 x50 hx50 h55 x70 hx70 h77),(fun i144=>(fun h145=>(o61 hp x0 hx0 h1 x50 hx50 h55 x70 hx70 h77 i144 h145)))⟩,⟨(congrArg iv (o62 hp x0 hx0 h1 x50 hx50 h55 x70 hx70 h77)),rfl⟩,⟨(congrArg iv (o63 hp x0 hx0 h1 x50 hx50 h55 x70 hx70 h77)),rfl⟩,⟨(congrArg iv (o64 hp x0 hx0 h1 x50 hx50 h55 x70 hx70 h77)),rfl⟩,tv⟩,⟨(congrArg bv (o65 hp x0 hx0 h1 x50 hx50 h55 x70 hx70 h77)),rfl⟩,tv⟩,rfl,rfl,rfl⟩
theorem tell_cells (r:Run) (m k:Nat) (h:(k:Int) < r.plates):[iv (whenS r m k).lo,iv (whenS r m k).hi]=cSpan (wAt r (m * r.plates.toNat + k)):=by rw [wAt_idx r h]; rfl
theorem t47 (r:Run):Triple Try.prog 47 (s47 r):=by
 apply w47
 case o65 =>
  intro hp
  have T:=(tellF hp.2.1 hp.2.2).one
  (repeat intro _)
  have h1:=mixes_in T
  have h2:=few_val0 T
  rw [one_open T rfl]
  simp [inside,h1,h2]
 all_goals (first | ((repeat intro _) <;> (try simp only [v0,v1,v2,v3,v4,v5,v6,v7,v8,v9,inI,fits,Go.Sh.small] at *) <;> first | (exact rfl) | omega | exact vz | (simp_all; done) | (simp_all; omega)) | skip)
 all_goals (intro hp; have T:=(tellF hp.2.1 hp.2.2).one; have hpl:=T.ok.plates; have hml:=T.ok.machines; have hfl:=T.ok.found; intro x hx hl; simp only [decide_eq_true_eq,decide_eq_false_iff_not] at hl)
 case o29 =>
  have e:x=r.machines.length:=by omega
  rw [e]
 case o9=>intro y hy h _; have:=(T.ok.mach x (by omega)).1; simp only [decide_eq_true_eq] at h; omega
 case o11 =>
  intro y hy h
  simp only [decide_eq_true_eq] at h
  have h1:=when_in T (m:=x) (p:=y) (by omega) h
  unfold chg at h1
  rw [h1,one_open T (whenIs_nat T.ok (m:=x) (p:=y) (by omega) h)]; rfl
 case o12=>intro y hy h; have:=Nat.mul_le_mul (show x<=3 by omega) (show r.plates.toNat<=3 by omega); omega
 case o13 | o35=>intro y hy h; exact ⟨by omega,by omega⟩
 case o16=>intro y hy h i hi; simp only [decide_eq_true_eq] at h; exact catF_idx (fun k=>cSpan (wAt r k)) (tell_cells r x y h) hi
 case o20 =>
  intro y hy h
  rw [mixed_range T (m:=x) (by omega),one_open T (isMachine_nat (m:=x) (by omega))]; rfl
 case o21 | o34=>(repeat intro _); omega
 case o24 =>
  intro y hy h
  simp only [decide_eq_false_iff_not] at h
  rw [Nat.add_mul,Nat.one_mul]; omega
 case o25=>intro y hy h i hi; exact catF_idx (fun k:Nat=>[iv (mixedS r k)]) rfl hi
 case o33 =>
  intro y hy h
  simp only [decide_eq_true_eq] at h
  have h1:=old_in T (p:=y) h
  rw [one_open T (isPlate_nat T.ok h)]
  simp [inside,h1]
 case o37=>intro y hy h i hi; exact catF_idx (fun k:Nat=>cSpan (oldS r k)) rfl hi
 all_goals (intro y hy hyl z hz hzl; simp only [decide_eq_true_eq,decide_eq_false_iff_not] at hyl hzl)
 case o45=>intro _; have:=where_facts T (i:=z) (by omega); omega
 case o47 =>
  obtain ⟨h1,h2,h3⟩:=where_facts T (i:=z) (by omega)
  rw [one_open T (isFound_nat (i:=z) (by omega)),h3]
  have:¬ ((whereS r z).length:Int)=0:=by omega
  simp [h1]
 case o48=>omega
 case o51=>intro i hi; exact catF_idx (fun k:Nat=>[aInts (whereS r k)]) rfl hi
 case o54=>simp only [toldOf,tWhen_len]
 case o55=>intro i hi; simp only [toldOf,tWhen_len] at hi ⊢; rw [tWhen_get _ hi]; rfl
 case o56=>simp only [toldOf,tOld_len]
 case o57=>intro i hi; simp only [toldOf,tOld_len] at hi ⊢; rw [tOld_get _ hi]; rfl
 case o58=>simp only [toldOf,tWhr_len]; omega
 case o59=>intro i hi; simp only [toldOf,tWhr_len] at hi ⊢; rw [tWhr_get _ hi]
 case o60=>simp only [toldOf,tMix_len]
 case o61=>intro i hi; simp only [toldOf,tMix_len] at hi ⊢; rw [tMix_get _ hi]
abbrev q48_1 (x:Tld) (y:Tld) (C:Prop):Prop:=Clear x y->C
abbrev q48_2 (x:Tld) (y:Tld) (C:Nat->Prop):Prop:=q48_1 x y (∀ (x70:Nat),x70<=(Tld.when x).length->decide ((x70:Int) < (↑((Tld.when x).length):Int))=true->C x70)
abbrev q48_3 (x:Tld) (y:Tld) (C:Nat->Prop):Prop:=q48_1 x y (∀ (x70:Nat),x70<=(Tld.when x).length->decide ((x70:Int) < (↑((Tld.when x).length):Int))=false->C x70)
abbrev q48_4 (x:Tld) (y:Tld) (C:Nat->Nat->Prop):Prop:=q48_3 x y fun x70 => ∀ (x73:Nat),x73<=(Tld.old x).length->decide ((x73:Int) < (↑((Tld.old x).length):Int))=true->C x70 x73
abbrev q48_5 (x:Tld) (y:Tld) (C:Nat->Nat->Prop):Prop:=q48_3 x y fun x70 => ∀ (x73:Nat),x73<=(Tld.old x).length->decide ((x73:Int) < (↑((Tld.old x).length):Int))=false->C x70 x73
abbrev q48_6 (x:Tld) (y:Tld) (C:Nat->Nat->Nat->Prop):Prop:=q48_5 x y fun x70 x73 => ∀ (x76:Nat),x76<=(Tld.mixed x).length->decide ((x76:Int) < (↑((Tld.mixed x).length):Int))=true->C x70 x73 x76
abbrev q48_7 (x:Tld) (y:Tld) (C:Nat->Nat->Nat->Prop):Prop:=q48_5 x y fun x70 x73 => ∀ (x76:Nat),x76<=(Tld.mixed x).length->decide ((x76:Int) < (↑((Tld.mixed x).length):Int))=false->C x70 x73 x76
abbrev q48_8 (x:Tld) (y:Tld) (C:Nat->Nat->Nat->Nat->Prop):Prop:=q48_7 x y fun x70 x73 x76 => ∀ (x101:Nat),x101<=(Tld.whr y).length->decide ((x101:Int) < (↑((Tld.whr y).length):Int))=true->C x70 x73 x76 x101
abbrev q48_9 (x:Tld) (y:Tld) (C:Nat->Nat->Nat->Nat->Nat->Prop):Prop:=q48_8 x y fun x70 x73 x76 x101 => ∀ (x103:Nat),x103<=((Tld.whr x).getD x101 []).length->C x70 x73 x76 x101 x103
abbrev q48_10 (x:Tld) (y:Tld) (C:Nat->Nat->Nat->Nat->Nat->Prop):Prop:=q48_9 x y fun x70 x73 x76 x101 x103=>decide ((x103:Int) < (↑(((Tld.whr x).getD x101 []).length):Int))=true->C x70 x73 x76 x101 x103
abbrev q48_11 (x:Tld) (y:Tld) (C:Nat->Nat->Nat->Nat->Nat->Prop):Prop:=q48_9 x y fun x70 x73 x76 x101 x103=>decide ((x103:Int) < (↑(((Tld.whr x).getD x101 []).length):Int))=false->C x70 x73 x76 x101 x103
theorem w48 (x:Tld) (y:Tld)
 (o0:q48_1 x y ((!decide ((↑((Tld.when x).length):Int)=(↑((Tld.when y).length):Int)))=false->(!!decide ((↑((Tld.when x).length):Int)=(↑((Tld.when y).length):Int)))=true))
 (o1:q48_1 x y ((bif !decide ((↑((Tld.when x).length):Int)=(↑((Tld.when y).length):Int)) then true else !decide ((↑((Tld.old x).length):Int)=(↑((Tld.old y).length):Int)))=false->(!bif !decide ((↑((Tld.when x).length):Int)=(↑((Tld.when y).length):Int)) then true else !decide ((↑((Tld.old x).length):Int)=(↑((Tld.old y).length):Int)))=true))
 (o2:q48_1 x y ((bif bif !decide ((↑((Tld.when x).length):Int)=(↑((Tld.when y).length):Int)) then true else !decide ((↑((Tld.old x).length):Int)=(↑((Tld.old y).length):Int)) then true else !decide ((↑((Tld.mixed x).length):Int)=(↑((Tld.mixed y).length):Int)))=false->(!bif bif !decide ((↑((Tld.when x).length):Int)=(↑((Tld.when y).length):Int)) then true else !decide ((↑((Tld.old x).length):Int)=(↑((Tld.old y).length):Int)) then true else !decide ((↑((Tld.mixed x).length):Int)=(↑((Tld.mixed y).length):Int)))=true))
 (o3:q48_1 x y ((bif bif bif !decide ((↑((Tld.when x).length):Int)=(↑((Tld.when y).length):Int)) then true else !decide ((↑((Tld.old x).length):Int)=(↑((Tld.old y).length):Int)) then true else !decide ((↑((Tld.mixed x).length):Int)=(↑((Tld.mixed y).length):Int)) then true else decide ((↑((Tld.whr x).length):Int) < (↑((Tld.whr y).length):Int)))=false->(!bif bif bif !decide ((↑((Tld.when x).length):Int)=(↑((Tld.when y).length):Int)) then true else !decide ((↑((Tld.old x).length):Int)=(↑((Tld.old y).length):Int)) then true else !decide ((↑((Tld.mixed x).length):Int)=(↑((Tld.mixed y).length):Int)) then true else decide ((↑((Tld.whr x).length):Int) < (↑((Tld.whr y).length):Int)))=true))
 (o4:q48_1 x y ((bif bif bif bif !decide ((↑((Tld.when x).length):Int)=(↑((Tld.when y).length):Int)) then true else !decide ((↑((Tld.old x).length):Int)=(↑((Tld.old y).length):Int)) then true else !decide ((↑((Tld.mixed x).length):Int)=(↑((Tld.mixed y).length):Int)) then true else decide ((↑((Tld.whr x).length):Int) < (↑((Tld.whr y).length):Int)) then true else !inside (Tld.mixes x) (Tld.mixes y))=false->(!bif bif bif bif !decide ((↑((Tld.when x).length):Int)=(↑((Tld.when y).length):Int)) then true else !decide ((↑((Tld.old x).length):Int)=(↑((Tld.old y).length):Int)) then true else !decide ((↑((Tld.mixed x).length):Int)=(↑((Tld.mixed y).length):Int)) then true else decide ((↑((Tld.whr x).length):Int) < (↑((Tld.whr y).length):Int)) then true else !inside (Tld.mixes x) (Tld.mixes y))=true))
 (o5:q48_1 x y ((bif bif bif bif bif !decide ((↑((Tld.when x).length):Int)=(↑((Tld.when y).length):Int)) then true else !decide ((↑((Tld.old x).length):Int)=(↑((Tld.old y).length):Int)) then true else !decide ((↑((Tld.mixed x).length):Int)=(↑((Tld.mixed y).length):Int)) then true else decide ((↑((Tld.whr x).length):Int) < (↑((Tld.whr y).length):Int)) then true else !inside (Tld.mixes x) (Tld.mixes y) then true else decide (Tld.fewest x < Tld.fewest y))=false))
 (o6:q48_1 x y (0=(↑0:Int)))
 (o7:q48_1 x y (0<=List.length (Tld.when x)))
 (o8:q48_2 x y fun x70=>0<=(x70:Int))
 (o9:q48_2 x y fun x70=>(x70:Int) < (↑((Tld.when x).length):Int))
 (o10:q48_2 x y fun x70=>0<=(x70:Int))
 (o11:q48_2 x y fun x70=>(x70:Int) < (↑((Tld.when y).length):Int))
 (o12:q48_2 x y fun x70=>(!inside ((Tld.when x).getD x70 default) ((Tld.when y).getD x70 default))=false)
 (o13:q48_2 x y fun x70=>inI ((x70:Int) + 1))
 (o14:q48_2 x y fun x70=>(x70:Int) + 1=(↑(x70 + 1):Int))
 (o15:q48_2 x y fun x70=>x70 + 1<=(Tld.when x).length)
 (o16:q48_2 x y fun x70=>(Tld.when x).length - (x70 + 1) < (Tld.when x).length - x70)
 (o17:q48_3 x y fun x70=>0=(↑0:Int))
 (o18:q48_3 x y fun x70=>0<=(Tld.old x).length)
 (o19:q48_4 x y fun x70 x73=>0<=(x73:Int))
 (o20:q48_4 x y fun x70 x73=>(x73:Int) < (↑((Tld.old x).length):Int))
 (o21:q48_4 x y fun x70 x73=>0<=(x73:Int))
 (o22:q48_4 x y fun x70 x73=>(x73:Int) < (↑((Tld.old y).length):Int))
 (o23:q48_4 x y fun x70 x73=>(!inside ((Tld.old x).getD x73 default) ((Tld.old y).getD x73 default))=false)
 (o24:q48_4 x y fun x70 x73=>inI ((x73:Int) + 1))
 (o25:q48_4 x y fun x70 x73=>(x73:Int) + 1=(↑(x73 + 1):Int))
 (o26:q48_4 x y fun x70 x73=>x73 + 1<=(Tld.old x).length)
 (o27:q48_4 x y fun x70 x73=>(Tld.old x).length - (x73 + 1) < (Tld.old x).length - x73)
 (o28:q48_5 x y fun x70 x73=>0=(↑0:Int))
 (o29:q48_5 x y fun x70 x73=>0<=(Tld.mixed x).length)
 (o30:q48_6 x y fun x70 x73 x76=>0<=(x76:Int))
 (o31:q48_6 x y fun x70 x73 x76=>(x76:Int) < (↑((Tld.mixed y).length):Int))
 (o32:q48_6 x y fun x70 x73 x76=>(!decide ((Tld.mixed y).getD x76 0=3))->0<=(x76:Int))
 (o33:q48_6 x y fun x70 x73 x76=>(!decide ((Tld.mixed y).getD x76 0=3))->(x76:Int) < (↑((Tld.mixed x).length):Int))
 (o34:q48_6 x y fun x70 x73 x76=>(!decide ((Tld.mixed y).getD x76 0=3))->0<=(x76:Int))
 (o35:q48_6 x y fun x70 x73 x76=>(!decide ((Tld.mixed y).getD x76 0=3))->(x76:Int) < (↑((Tld.mixed y).length):Int))
 (o36:q48_6 x y fun x70 x73 x76=>(bif !decide ((Tld.mixed y).getD x76 0=3) then !decide ((Tld.mixed x).getD x76 0=(Tld.mixed y).getD x76 0) else false)=false)
 (o37:q48_6 x y fun x70 x73 x76=>inI ((x76:Int) + 1))
 (o38:q48_6 x y fun x70 x73 x76=>(x76:Int) + 1=(↑(x76 + 1):Int))
 (o39:q48_6 x y fun x70 x73 x76=>x76 + 1<=(Tld.mixed x).length)
 (o40:q48_6 x y fun x70 x73 x76=>(Tld.mixed x).length - (x76 + 1) < (Tld.mixed x).length - x76)
 (o41:q48_7 x y fun x70 x73 x76=>0=(↑0:Int))
 (o42:q48_7 x y fun x70 x73 x76=>0<=(Tld.whr y).length)
 (o43:q48_8 x y fun x70 x73 x76 x101=>0=(↑0:Int))
 (o44:q48_8 x y fun x70 x73 x76 x101=>0<=((Tld.whr x).getD x101 []).length)
 (o45:q48_9 x y fun x70 x73 x76 x101 x103=>0<=(x101:Int))
 (o46:q48_9 x y fun x70 x73 x76 x101 x103=>(x101:Int) < (↑((Tld.whr x).length):Int))
 (o47:q48_10 x y fun x70 x73 x76 x101 x103=>0<=(x101:Int))
 (o48:q48_10 x y fun x70 x73 x76 x101 x103=>(x101:Int) < (↑((Tld.whr y).length):Int))
 (o49:q48_10 x y fun x70 x73 x76 x101 x103=>0<=(x101:Int))
 (o50:q48_10 x y fun x70 x73 x76 x101 x103=>(x101:Int) < (↑((Tld.whr x).length):Int))
 (o51:q48_10 x y fun x70 x73 x76 x101 x103=>0<=(x103:Int))
 (o52:q48_10 x y fun x70 x73 x76 x101 x103=>(x103:Int) < (↑(((Tld.whr x).getD x101 []).length):Int))
 (o53:q48_10 x y fun x70 x73 x76 x101 x103=>((Tld.whr y).getD x101 []).length<=1125899906842624)
 (o54:q48_10 x y fun x70 x73 x76 x101 x103=>(!isIn ((Tld.whr y).getD x101 []) (((Tld.whr x).getD x101 []).getD x103 0))=false)
 (o55:q48_10 x y fun x70 x73 x76 x101 x103=>inI ((x103:Int) + 1))
 (o56:q48_10 x y fun x70 x73 x76 x101 x103=>(x103:Int) + 1=(↑(x103 + 1):Int))
 (o57:q48_10 x y fun x70 x73 x76 x101 x103=>x103 + 1<=((Tld.whr x).getD x101 []).length)
 (o58:q48_10 x y fun x70 x73 x76 x101 x103=>((Tld.whr x).getD x101 []).length - (x103 + 1) < ((Tld.whr x).getD x101 []).length - x103)
 (o59:q48_11 x y fun x70 x73 x76 x101 x103=>inI ((x101:Int) + 1))
 (o60:q48_11 x y fun x70 x73 x76 x101 x103=>(x101:Int) + 1=(↑(x101 + 1):Int))
 (o61:q48_11 x y fun x70 x73 x76 x101 x103=>x101 + 1<=(Tld.whr y).length)
 (o62:q48_11 x y fun x70 x73 x76 x101 x103=>(Tld.whr y).length - (x101 + 1) < (Tld.whr y).length - x101) :
  Triple Try.prog 48 (s48 x y):=by
 refine triple_of Try.func48 rfl Try.call48 T0_ok _ rfl rfl rfl rfl (Nat.le_of_ble_eq_true (by kernel_rfl)) (fun _ _ _ _ h=>h) ?_
 intro hp C hC _ hE
 obtain ⟨P,w0,E0,av,hA⟩:=C
 subst hC
 refine swp_seq ?_
 refine sR (kt:=[2,3]) (kh:=[0,8]) (q:=True/\True/\True/\True) (st':=ASt.mk [(2,.ptr 0 []),(3,.ptr 8 [])] [(0,.cells 62 (cTld x)),(8,.cells 62 (cTld y))] 24) (by kernel_rfl) ⟨tv,tv,tv,tv⟩ ?_
 refine swp_seq (swp_seq ?_)
 refine swp_region T0_ok mixed (cs:=[(39,CallSpec.eq (s28 (Tld.mixes x) (Tld.mixes y)) [true,true])]) (kt:=[2,3,58]) (kh:=[0,8]) (q:=True/\True/\True/\True/\True/\True/\True/\True/\((!!decide ((↑((Tld.when x).length):Int)=(↑((Tld.when y).length):Int)))->(True/\True)/\True)/\((!!decide ((↑((Tld.when x).length):Int)=(↑((Tld.when y).length):Int)))->(((!!decide ((↑((Tld.when x).length):Int)=(↑((Tld.when y).length):Int)))->(!!decide ((↑((Tld.when x).length):Int)=(↑((Tld.when y).length):Int)))=true)/\True)/\True)/\((!!decide ((↑((Tld.when x).length):Int)=(↑((Tld.when y).length):Int)))->(((!!decide ((↑((Tld.when x).length):Int)=(↑((Tld.when y).length):Int)))->(!!decide ((↑((Tld.when x).length):Int)=(↑((Tld.when y).length):Int)))=true)/\True)/\True)/\((!!decide ((↑((Tld.when x).length):Int)=(↑((Tld.when y).length):Int)))->(True/\True)/\True)/\((!!decide ((↑((Tld.when x).length):Int)=(↑((Tld.when y).length):Int)))->(((!!decide ((↑((Tld.when x).length):Int)=(↑((Tld.when y).length):Int)))->(!!decide ((↑((Tld.when x).length):Int)=(↑((Tld.when y).length):Int)))=true)/\True)/\True)/\((!!decide ((↑((Tld.when x).length):Int)=(↑((Tld.when y).length):Int)))->(((!!decide ((↑((Tld.when x).length):Int)=(↑((Tld.when y).length):Int)))->(!!decide ((↑((Tld.when x).length):Int)=(↑((Tld.when y).length):Int)))=true)/\True)/\True)/\((!!decide ((↑((Tld.when x).length):Int)=(↑((Tld.when y).length):Int)))->(((!!decide ((↑((Tld.when x).length):Int)=(↑((Tld.when y).length):Int)))->(!!decide ((↑((Tld.when x).length):Int)=(↑((Tld.when y).length):Int)))=true)/\((!!decide ((↑((Tld.when x).length):Int)=(↑((Tld.when y).length):Int)))->(!!decide ((↑((Tld.when x).length):Int)=(↑((Tld.when y).length):Int)))=true)/\True)/\True)/\(((!decide ((↑((Tld.when x).length):Int)=(↑((Tld.when y).length):Int)))->True)/\((!decide ((↑((Tld.when x).length):Int)=(↑((Tld.when y).length):Int)))=false->(!!decide ((↑((Tld.when x).length):Int)=(↑((Tld.when y).length):Int)))=true))/\True/\((!bif !decide ((↑((Tld.when x).length):Int)=(↑((Tld.when y).length):Int)) then true else !decide ((↑((Tld.old x).length):Int)=(↑((Tld.old y).length):Int)))=true->(True/\True)/\True)/\((!bif !decide ((↑((Tld.when x).length):Int)=(↑((Tld.when y).length):Int)) then true else !decide ((↑((Tld.old x).length):Int)=(↑((Tld.old y).length):Int)))=true->(((!bif !decide ((↑((Tld.when x).length):Int)=(↑((Tld.when y).length):Int)) then true else !decide ((↑((Tld.old x).length):Int)=(↑((Tld.old y).length):Int)))=true->(!bif !decide ((↑((Tld.when x).length):Int)=(↑((Tld.when y).length):Int)) then true else !decide ((↑((Tld.old x).length):Int)=(↑((Tld.old y).length):Int)))=true)/\True)/\True)/\((!bif !decide ((↑((Tld.when x).length):Int)=(↑((Tld.when y).length):Int)) then true else !decide ((↑((Tld.old x).length):Int)=(↑((Tld.old y).length):Int)))=true->(((!bif !decide ((↑((Tld.when x).length):Int)=(↑((Tld.when y).length):Int)) then true else !decide ((↑((Tld.old x).length):Int)=(↑((Tld.old y).length):Int)))=true->(!bif !decide ((↑((Tld.when x).length):Int)=(↑((Tld.when y).length):Int)) then true else !decide ((↑((Tld.old x).length):Int)=(↑((Tld.old y).length):Int)))=true)/\True)/\True)/\((!bif !decide ((↑((Tld.when x).length):Int)=(↑((Tld.when y).length):Int)) then true else !decide ((↑((Tld.old x).length):Int)=(↑((Tld.old y).length):Int)))=true->(True/\True)/\True)/\((!bif !decide ((↑((Tld.when x).length):Int)=(↑((Tld.when y).length):Int)) then true else !decide ((↑((Tld.old x).length):Int)=(↑((Tld.old y).length):Int)))=true->(((!bif !decide ((↑((Tld.when x).length):Int)=(↑((Tld.when y).length):Int)) then true else !decide ((↑((Tld.old x).length):Int)=(↑((Tld.old y).length):Int)))=true->(!bif !decide ((↑((Tld.when x).length):Int)=(↑((Tld.when y).length):Int)) then true else !decide ((↑((Tld.old x).length):Int)=(↑((Tld.old y).length):Int)))=true)/\True)/\True)/\((!bif !decide ((↑((Tld.when x).length):Int)=(↑((Tld.when y).length):Int)) then true else !decide ((↑((Tld.old x).length):Int)=(↑((Tld.old y).length):Int)))=true->(((!bif !decide ((↑((Tld.when x).length):Int)=(↑((Tld.when y).length):Int)) then true else !decide ((↑((Tld.old x).length):Int)=(↑((Tld.old y).length):Int)))=true->(!bif !decide ((↑((Tld.when x).length):Int)=(↑((Tld.when y).length):Int)) then true else !decide ((↑((Tld.old x).length):Int)=(↑((Tld.old y).length):Int)))=true)/\True)/\True)/\((!bif !decide ((↑((Tld.when x).length):Int)=(↑((Tld.when y).length):Int)) then true else !decide ((↑((Tld.old x).length):Int)=(↑((Tld.old y).length):Int)))=true->(((!bif !decide ((↑((Tld.when x).length):Int)=(↑((Tld.when y).length):Int)) then true else !decide ((↑((Tld.old x).length):Int)=(↑((Tld.old y).length):Int)))=true->(!bif !decide ((↑((Tld.when x).length):Int)=(↑((Tld.when y).length):Int)) then true else !decide ((↑((Tld.old x).length):Int)=(↑((Tld.old y).length):Int)))=true)/\((!bif !decide ((↑((Tld.when x).length):Int)=(↑((Tld.when y).length):Int)) then true else !decide ((↑((Tld.old x).length):Int)=(↑((Tld.old y).length):Int)))=true->(!bif !decide ((↑((Tld.when x).length):Int)=(↑((Tld.when y).length):Int)) then true else !decide ((↑((Tld.old x).length):Int)=(↑((Tld.old y).length):Int)))=true)/\True)/\True)/\(((bif !decide ((↑((Tld.when x).length):Int)=(↑((Tld.when y).length):Int)) then true else !decide ((↑((Tld.old x).length):Int)=(↑((Tld.old y).length):Int)))=true->True)/\((bif !decide ((↑((Tld.when x).length):Int)=(↑((Tld.when y).length):Int)) then true else !decide ((↑((Tld.old x).length):Int)=(↑((Tld.old y).length):Int)))=false->(!bif !decide ((↑((Tld.when x).length):Int)=(↑((Tld.when y).length):Int)) then true else !decide ((↑((Tld.old x).length):Int)=(↑((Tld.old y).length):Int)))=true))/\True/\((!bif bif !decide ((↑((Tld.when x).length):Int)=(↑((Tld.when y).length):Int)) then true else !decide ((↑((Tld.old x).length):Int)=(↑((Tld.old y).length):Int)) then true else !decide ((↑((Tld.mixed x).length):Int)=(↑((Tld.mixed y).length):Int)))=true->(True/\True)/\True)/\((!bif bif !decide ((↑((Tld.when x).length):Int)=(↑((Tld.when y).length):Int)) then true else !decide ((↑((Tld.old x).length):Int)=(↑((Tld.old y).length):Int)) then true else !decide ((↑((Tld.mixed x).length):Int)=(↑((Tld.mixed y).length):Int)))=true->(((!bif bif !decide ((↑((Tld.when x).length):Int)=(↑((Tld.when y).length):Int)) then true else !decide ((↑((Tld.old x).length):Int)=(↑((Tld.old y).length):Int)) then true else !decide ((↑((Tld.mixed x).length):Int)=(↑((Tld.mixed y).length):Int)))=true->(!bif bif !decide ((↑((Tld.when x).length):Int)=(↑((Tld.when y).length):Int)) then true else !decide ((↑((Tld.old x).length):Int)=(↑((Tld.old y).length):Int)) then true else !decide ((↑((Tld.mixed x).length):Int)=(↑((Tld.mixed y).length):Int)))=true)/\True)/\True)/\((!bif bif !decide ((↑((Tld.when x).length):Int)=(↑((Tld.when y).length):Int)) then true else !decide ((↑((Tld.old x).length):Int)=(↑((Tld.old y).length):Int)) then true else !decide ((↑((Tld.mixed x).length):Int)=(↑((Tld.mixed y).length):Int)))=true->(((!bif bif !decide ((↑((Tld.when x).length):Int)=(↑((Tld.when y).length):Int)) then true else !decide ((↑((Tld.old x).length):Int)=(↑((Tld.old y).length):Int)) then true else !decide ((↑((Tld.mixed x).length):Int)=(↑((Tld.mixed y).length):Int)))=true->(!bif bif !decide ((↑((Tld.when x).length):Int)=(↑((Tld.when y).length):Int)) then true else !decide ((↑((Tld.old x).length):Int)=(↑((Tld.old y).length):Int)) then true else !decide ((↑((Tld.mixed x).length):Int)=(↑((Tld.mixed y).length):Int)))=true)/\True)/\True)/\((!bif bif !decide ((↑((Tld.when x).length):Int)=(↑((Tld.when y).length):Int)) then true else !decide ((↑((Tld.old x).length):Int)=(↑((Tld.old y).length):Int)) then true else !decide ((↑((Tld.mixed x).length):Int)=(↑((Tld.mixed y).length):Int)))=true->(True/\True)/\True)/\((!bif bif !decide ((↑((Tld.when x).length):Int)=(↑((Tld.when y).length):Int)) then true else !decide ((↑((Tld.old x).length):Int)=(↑((Tld.old y).length):Int)) then true else !decide ((↑((Tld.mixed x).length):Int)=(↑((Tld.mixed y).length):Int)))=true->(((!bif bif !decide ((↑((Tld.when x).length):Int)=(↑((Tld.when y).length):Int)) then true else !decide ((↑((Tld.old x).length):Int)=(↑((Tld.old y).length):Int)) then true else !decide ((↑((Tld.mixed x).length):Int)=(↑((Tld.mixed y).length):Int)))=true->(!bif bif !decide ((↑((Tld.when x).length):Int)=(↑((Tld.when y).length):Int)) then true else !decide ((↑((Tld.old x).length):Int)=(↑((Tld.old y).length):Int)) then true else !decide ((↑((Tld.mixed x).length):Int)=(↑((Tld.mixed y).length):Int)))=true)/\True)/\True)/\((!bif bif !decide ((↑((Tld.when x).length):Int)=(↑((Tld.when y).length):Int)) then true else !decide ((↑((Tld.old x).length):Int)=(↑((Tld.old y).length):Int)) then true else !decide ((↑((Tld.mixed x).length):Int)=(↑((Tld.mixed y).length):Int)))=true->(((!bif bif !decide ((↑((Tld.when x).length):Int)=(↑((Tld.when y).length):Int)) then true else !decide ((↑((Tld.old x).length):Int)=(↑((Tld.old y).length):Int)) then true else !decide ((↑((Tld.mixed x).length):Int)=(↑((Tld.mixed y).length):Int)))=true->(!bif bif !decide ((↑((Tld.when x).length):Int)=(↑((Tld.when y).length):Int)) then true else !decide ((↑((Tld.old x).length):Int)=(↑((Tld.old y).length):Int)) then true else !decide ((↑((Tld.mixed x).length):Int)=(↑((Tld.mixed y).length):Int)))=true)/\True)/\True)/\((!bif bif !decide ((↑((Tld.when x).length):Int)=(↑((Tld.when y).length):Int)) then true else !decide ((↑((Tld.old x).length):Int)=(↑((Tld.old y).length):Int)) then true else !decide ((↑((Tld.mixed x).length):Int)=(↑((Tld.mixed y).length):Int)))=true->(((!bif bif !decide ((↑((Tld.when x).length):Int)=(↑((Tld.when y).length):Int)) then true else !decide ((↑((Tld.old x).length):Int)=(↑((Tld.old y).length):Int)) then true else !decide ((↑((Tld.mixed x).length):Int)=(↑((Tld.mixed y).length):Int)))=true->(!bif bif !decide ((↑((Tld.when x).length):Int)=(↑((Tld.when y).length):Int)) then true else !decide ((↑((Tld.old x).length):Int)=(↑((Tld.old y).length):Int)) then true else !decide ((↑((Tld.mixed x).length):Int)=(↑((Tld.mixed y).length):Int)))=true)/\((!bif bif !decide ((↑((Tld.when x).length):Int)=(↑((Tld.when y).length):Int)) then true else !decide ((↑((Tld.old x).length):Int)=(↑((Tld.old y).length):Int)) then true else !decide ((↑((Tld.mixed x).length):Int)=(↑((Tld.mixed y).length):Int)))=true->(!bif bif !decide ((↑((Tld.when x).length):Int)=(↑((Tld.when y).length):Int)) then true else !decide ((↑((Tld.old x).length):Int)=(↑((Tld.old y).length):Int)) then true else !decide ((↑((Tld.mixed x).length):Int)=(↑((Tld.mixed y).length):Int)))=true)/\True)/\True)/\(((bif bif !decide ((↑((Tld.when x).length):Int)=(↑((Tld.when y).length):Int)) then true else !decide ((↑((Tld.old x).length):Int)=(↑((Tld.old y).length):Int)) then true else !decide ((↑((Tld.mixed x).length):Int)=(↑((Tld.mixed y).length):Int)))=true->True)/\((bif bif !decide ((↑((Tld.when x).length):Int)=(↑((Tld.when y).length):Int)) then true else !decide ((↑((Tld.old x).length):Int)=(↑((Tld.old y).length):Int)) then true else !decide ((↑((Tld.mixed x).length):Int)=(↑((Tld.mixed y).length):Int)))=false->(!bif bif !decide ((↑((Tld.when x).length):Int)=(↑((Tld.when y).length):Int)) then true else !decide ((↑((Tld.old x).length):Int)=(↑((Tld.old y).length):Int)) then true else !decide ((↑((Tld.mixed x).length):Int)=(↑((Tld.mixed y).length):Int)))=true))/\True/\((!bif bif bif !decide ((↑((Tld.when x).length):Int)=(↑((Tld.when y).length):Int)) then true else !decide ((↑((Tld.old x).length):Int)=(↑((Tld.old y).length):Int)) then true else !decide ((↑((Tld.mixed x).length):Int)=(↑((Tld.mixed y).length):Int)) then true else decide ((↑((Tld.whr x).length):Int) < (↑((Tld.whr y).length):Int)))=true->(True/\True)/\True)/\((!bif bif bif !decide ((↑((Tld.when x).length):Int)=(↑((Tld.when y).length):Int)) then true else !decide ((↑((Tld.old x).length):Int)=(↑((Tld.old y).length):Int)) then true else !decide ((↑((Tld.mixed x).length):Int)=(↑((Tld.mixed y).length):Int)) then true else decide ((↑((Tld.whr x).length):Int) < (↑((Tld.whr y).length):Int)))=true->(((!bif bif bif !decide ((↑((Tld.when x).length):Int)=(↑((Tld.when y).length):Int)) then true else !decide ((↑((Tld.old x).length):Int)=(↑((Tld.old y).length):Int)) then true else !decide ((↑((Tld.mixed x).length):Int)=(↑((Tld.mixed y).length):Int)) then true else decide ((↑((Tld.whr x).length):Int) < (↑((Tld.whr y).length):Int)))=true->(!bif bif bif !decide ((↑((Tld.when x).length):Int)=(↑((Tld.when y).length):Int)) then true else !decide ((↑((Tld.old x).length):Int)=(↑((Tld.old y).length):Int)) then true else !decide ((↑((Tld.mixed x).length):Int)=(↑((Tld.mixed y).length):Int)) then true else decide ((↑((Tld.whr x).length):Int) < (↑((Tld.whr y).length):Int)))=true)/\True)/\True)/\((!bif bif bif !decide ((↑((Tld.when x).length):Int)=(↑((Tld.when y).length):Int)) then true else !decide ((↑((Tld.old x).length):Int)=(↑((Tld.old y).length):Int)) then true else !decide ((↑((Tld.mixed x).length):Int)=(↑((Tld.mixed y).length):Int)) then true else decide ((↑((Tld.whr x).length):Int) < (↑((Tld.whr y).length):Int)))=true->(True/\True)/\True)/\((!bif bif bif !decide ((↑((Tld.when x).length):Int)=(↑((Tld.when y).length):Int)) then true else !decide ((↑((Tld.old x).length):Int)=(↑((Tld.old y).length):Int)) then true else !decide ((↑((Tld.mixed x).length):Int)=(↑((Tld.mixed y).length):Int)) then true else decide ((↑((Tld.whr x).length):Int) < (↑((Tld.whr y).length):Int)))=true->(((!bif bif bif !decide ((↑((Tld.when x).length):Int)=(↑((Tld.when y).length):Int)) then true else !decide ((↑((Tld.old x).length):Int)=(↑((Tld.old y).length):Int)) then true else !decide ((↑((Tld.mixed x).length):Int)=(↑((Tld.mixed y).length):Int)) then true else decide ((↑((Tld.whr x).length):Int) < (↑((Tld.whr y).length):Int)))=true->(!bif bif bif !decide ((↑((Tld.when x).length):Int)=(↑((Tld.when y).length):Int)) then true else !decide ((↑((Tld.old x).length):Int)=(↑((Tld.old y).length):Int)) then true else !decide ((↑((Tld.mixed x).length):Int)=(↑((Tld.mixed y).length):Int)) then true else decide ((↑((Tld.whr x).length):Int) < (↑((Tld.whr y).length):Int)))=true)/\True)/\True)/\((!bif bif bif !decide ((↑((Tld.when x).length):Int)=(↑((Tld.when y).length):Int)) then true else !decide ((↑((Tld.old x).length):Int)=(↑((Tld.old y).length):Int)) then true else !decide ((↑((Tld.mixed x).length):Int)=(↑((Tld.mixed y).length):Int)) then true else decide ((↑((Tld.whr x).length):Int) < (↑((Tld.whr y).length):Int)))=true->(True/\((!bif bif bif !decide ((↑((Tld.when x).length):Int)=(↑((Tld.when y).length):Int)) then true else !decide ((↑((Tld.old x).length):Int)=(↑((Tld.old y).length):Int)) then true else !decide ((↑((Tld.mixed x).length):Int)=(↑((Tld.mixed y).length):Int)) then true else decide ((↑((Tld.whr x).length):Int) < (↑((Tld.whr y).length):Int)))=true->(!bif bif bif !decide ((↑((Tld.when x).length):Int)=(↑((Tld.when y).length):Int)) then true else !decide ((↑((Tld.old x).length):Int)=(↑((Tld.old y).length):Int)) then true else !decide ((↑((Tld.mixed x).length):Int)=(↑((Tld.mixed y).length):Int)) then true else decide ((↑((Tld.whr x).length):Int) < (↑((Tld.whr y).length):Int)))=true)/\((!bif bif bif !decide ((↑((Tld.when x).length):Int)=(↑((Tld.when y).length):Int)) then true else !decide ((↑((Tld.old x).length):Int)=(↑((Tld.old y).length):Int)) then true else !decide ((↑((Tld.mixed x).length):Int)=(↑((Tld.mixed y).length):Int)) then true else decide ((↑((Tld.whr x).length):Int) < (↑((Tld.whr y).length):Int)))=true->(!bif bif bif !decide ((↑((Tld.when x).length):Int)=(↑((Tld.when y).length):Int)) then true else !decide ((↑((Tld.old x).length):Int)=(↑((Tld.old y).length):Int)) then true else !decide ((↑((Tld.mixed x).length):Int)=(↑((Tld.mixed y).length):Int)) then true else decide ((↑((Tld.whr x).length):Int) < (↑((Tld.whr y).length):Int)))=true)/\True)/\(AV.agg (cSpan (Tld.mixes x))=AV.agg (cSpan (Tld.mixes x))/\AV.agg (cSpan (Tld.mixes y))=AV.agg (cSpan (Tld.mixes y))/\True)/\Triple Try.prog 28 (s28 (Tld.mixes x) (Tld.mixes y))/\True/\True /\ ∀ (i54:Env),True)/\((!bif bif bif !decide ((↑((Tld.when x).length):Int)=(↑((Tld.when y).length):Int)) then true else !decide ((↑((Tld.old x).length):Int)=(↑((Tld.old y).length):Int)) then true else !decide ((↑((Tld.mixed x).length):Int)=(↑((Tld.mixed y).length):Int)) then true else decide ((↑((Tld.whr x).length):Int) < (↑((Tld.whr y).length):Int)))=true->(((!bif bif bif !decide ((↑((Tld.when x).length):Int)=(↑((Tld.when y).length):Int)) then true else !decide ((↑((Tld.old x).length):Int)=(↑((Tld.old y).length):Int)) then true else !decide ((↑((Tld.mixed x).length):Int)=(↑((Tld.mixed y).length):Int)) then true else decide ((↑((Tld.whr x).length):Int) < (↑((Tld.whr y).length):Int)))=true->(!bif bif bif !decide ((↑((Tld.when x).length):Int)=(↑((Tld.when y).length):Int)) then true else !decide ((↑((Tld.old x).length):Int)=(↑((Tld.old y).length):Int)) then true else !decide ((↑((Tld.mixed x).length):Int)=(↑((Tld.mixed y).length):Int)) then true else decide ((↑((Tld.whr x).length):Int) < (↑((Tld.whr y).length):Int)))=true)/\True)/\True)/\(((bif bif bif !decide ((↑((Tld.when x).length):Int)=(↑((Tld.when y).length):Int)) then true else !decide ((↑((Tld.old x).length):Int)=(↑((Tld.old y).length):Int)) then true else !decide ((↑((Tld.mixed x).length):Int)=(↑((Tld.mixed y).length):Int)) then true else decide ((↑((Tld.whr x).length):Int) < (↑((Tld.whr y).length):Int)))=true->True)/\((bif bif bif !decide ((↑((Tld.when x).length):Int)=(↑((Tld.when y).length):Int)) then true else !decide ((↑((Tld.old x).length):Int)=(↑((Tld.old y).length):Int)) then true else !decide ((↑((Tld.mixed x).length):Int)=(↑((Tld.mixed y).length):Int)) then true else decide ((↑((Tld.whr x).length):Int) < (↑((Tld.whr y).length):Int)))=false->(!bif bif bif !decide ((↑((Tld.when x).length):Int)=(↑((Tld.when y).length):Int)) then true else !decide ((↑((Tld.old x).length):Int)=(↑((Tld.old y).length):Int)) then true else !decide ((↑((Tld.mixed x).length):Int)=(↑((Tld.mixed y).length):Int)) then true else decide ((↑((Tld.whr x).length):Int) < (↑((Tld.whr y).length):Int)))=true))/\True/\((!bif bif bif bif !decide ((↑((Tld.when x).length):Int)=(↑((Tld.when y).length):Int)) then true else !decide ((↑((Tld.old x).length):Int)=(↑((Tld.old y).length):Int)) then true else !decide ((↑((Tld.mixed x).length):Int)=(↑((Tld.mixed y).length):Int)) then true else decide ((↑((Tld.whr x).length):Int) < (↑((Tld.whr y).length):Int)) then true else !inside (Tld.mixes x) (Tld.mixes y))=true->(True/\True)/\True)/\((!bif bif bif bif !decide ((↑((Tld.when x).length):Int)=(↑((Tld.when y).length):Int)) then true else !decide ((↑((Tld.old x).length):Int)=(↑((Tld.old y).length):Int)) then true else !decide ((↑((Tld.mixed x).length):Int)=(↑((Tld.mixed y).length):Int)) then true else decide ((↑((Tld.whr x).length):Int) < (↑((Tld.whr y).length):Int)) then true else !inside (Tld.mixes x) (Tld.mixes y))=true->(((!bif bif bif bif !decide ((↑((Tld.when x).length):Int)=(↑((Tld.when y).length):Int)) then true else !decide ((↑((Tld.old x).length):Int)=(↑((Tld.old y).length):Int)) then true else !decide ((↑((Tld.mixed x).length):Int)=(↑((Tld.mixed y).length):Int)) then true else decide ((↑((Tld.whr x).length):Int) < (↑((Tld.whr y).length):Int)) then true else !inside (Tld.mixes x) (Tld.mixes y))=true->(!bif bif bif bif !decide ((↑((Tld.when x).length):Int)=(↑((Tld.when y).length):Int)) then true else !decide ((↑((Tld.old x).length):Int)=(↑((Tld.old y).length):Int)) then true else !decide ((↑((Tld.mixed x).length):Int)=(↑((Tld.mixed y).length):Int)) then true else decide ((↑((Tld.whr x).length):Int) < (↑((Tld.whr y).length):Int)) then true else !inside (Tld.mixes x) (Tld.mixes y))=true)/\True)/\True)/\((!bif bif bif bif !decide ((↑((Tld.when x).length):Int)=(↑((Tld.when y).length):Int)) then true else !decide ((↑((Tld.old x).length):Int)=(↑((Tld.old y).length):Int)) then true else !decide ((↑((Tld.mixed x).length):Int)=(↑((Tld.mixed y).length):Int)) then true else decide ((↑((Tld.whr x).length):Int) < (↑((Tld.whr y).length):Int)) then true else !inside (Tld.mixes x) (Tld.mixes y))=true->(True/\True)/\True)/\((!bif bif bif bif !decide ((↑((Tld.when x).length):Int)=(↑((Tld.when y).length):Int)) then true else !decide ((↑((Tld.old x).length):Int)=(↑((Tld.old y).length):Int)) then true else !decide ((↑((Tld.mixed x).length):Int)=(↑((Tld.mixed y).length):Int)) then true else decide ((↑((Tld.whr x).length):Int) < (↑((Tld.whr y).length):Int)) then true else !inside (Tld.mixes x) (Tld.mixes y))=true->(((!bif bif bif bif !decide ((↑((Tld.when x).length):Int)=(↑((Tld.when y).length):Int)) then true else !decide ((↑((Tld.old x).length):Int)=(↑((Tld.old y).length):Int)) then true else !decide ((↑((Tld.mixed x).length):Int)=(↑((Tld.mixed y).length):Int)) then true else decide ((↑((Tld.whr x).length):Int) < (↑((Tld.whr y).length):Int)) then true else !inside (Tld.mixes x) (Tld.mixes y))=true->(!bif bif bif bif !decide ((↑((Tld.when x).length):Int)=(↑((Tld.when y).length):Int)) then true else !decide ((↑((Tld.old x).length):Int)=(↑((Tld.old y).length):Int)) then true else !decide ((↑((Tld.mixed x).length):Int)=(↑((Tld.mixed y).length):Int)) then true else decide ((↑((Tld.whr x).length):Int) < (↑((Tld.whr y).length):Int)) then true else !inside (Tld.mixes x) (Tld.mixes y))=true)/\True)/\True)/\((!bif bif bif bif !decide ((↑((Tld.when x).length):Int)=(↑((Tld.when y).length):Int)) then true else !decide ((↑((Tld.old x).length):Int)=(↑((Tld.old y).length):Int)) then true else !decide ((↑((Tld.mixed x).length):Int)=(↑((Tld.mixed y).length):Int)) then true else decide ((↑((Tld.whr x).length):Int) < (↑((Tld.whr y).length):Int)) then true else !inside (Tld.mixes x) (Tld.mixes y))=true->(((!bif bif bif bif !decide ((↑((Tld.when x).length):Int)=(↑((Tld.when y).length):Int)) then true else !decide ((↑((Tld.old x).length):Int)=(↑((Tld.old y).length):Int)) then true else !decide ((↑((Tld.mixed x).length):Int)=(↑((Tld.mixed y).length):Int)) then true else decide ((↑((Tld.whr x).length):Int) < (↑((Tld.whr y).length):Int)) then true else !inside (Tld.mixes x) (Tld.mixes y))=true->(!bif bif bif bif !decide ((↑((Tld.when x).length):Int)=(↑((Tld.when y).length):Int)) then true else !decide ((↑((Tld.old x).length):Int)=(↑((Tld.old y).length):Int)) then true else !decide ((↑((Tld.mixed x).length):Int)=(↑((Tld.mixed y).length):Int)) then true else decide ((↑((Tld.whr x).length):Int) < (↑((Tld.whr y).length):Int)) then true else !inside (Tld.mixes x) (Tld.mixes y))=true)/\((!bif bif bif bif !decide ((↑((Tld.when x).length):Int)=(↑((Tld.when y).length):Int)) then true else !decide ((↑((Tld.old x).length):Int)=(↑((Tld.old y).length):Int)) then true else !decide ((↑((Tld.mixed x).length):Int)=(↑((Tld.mixed y).length):Int)) then true else decide ((↑((Tld.whr x).length):Int) < (↑((Tld.whr y).length):Int)) then true else !inside (Tld.mixes x) (Tld.mixes y))=true->(!bif bif bif bif !decide ((↑((Tld.when x).length):Int)=(↑((Tld.when y).length):Int)) then true else !decide ((↑((Tld.old x).length):Int)=(↑((Tld.old y).length):Int)) then true else !decide ((↑((Tld.mixed x).length):Int)=(↑((Tld.mixed y).length):Int)) then true else decide ((↑((Tld.whr x).length):Int) < (↑((Tld.whr y).length):Int)) then true else !inside (Tld.mixes x) (Tld.mixes y))=true)/\True)/\True)/\(((bif bif bif bif !decide ((↑((Tld.when x).length):Int)=(↑((Tld.when y).length):Int)) then true else !decide ((↑((Tld.old x).length):Int)=(↑((Tld.old y).length):Int)) then true else !decide ((↑((Tld.mixed x).length):Int)=(↑((Tld.mixed y).length):Int)) then true else decide ((↑((Tld.whr x).length):Int) < (↑((Tld.whr y).length):Int)) then true else !inside (Tld.mixes x) (Tld.mixes y))=true->True)/\((bif bif bif bif !decide ((↑((Tld.when x).length):Int)=(↑((Tld.when y).length):Int)) then true else !decide ((↑((Tld.old x).length):Int)=(↑((Tld.old y).length):Int)) then true else !decide ((↑((Tld.mixed x).length):Int)=(↑((Tld.mixed y).length):Int)) then true else decide ((↑((Tld.whr x).length):Int) < (↑((Tld.whr y).length):Int)) then true else !inside (Tld.mixes x) (Tld.mixes y))=false->(!bif bif bif bif !decide ((↑((Tld.when x).length):Int)=(↑((Tld.when y).length):Int)) then true else !decide ((↑((Tld.old x).length):Int)=(↑((Tld.old y).length):Int)) then true else !decide ((↑((Tld.mixed x).length):Int)=(↑((Tld.mixed y).length):Int)) then true else decide ((↑((Tld.whr x).length):Int) < (↑((Tld.whr y).length):Int)) then true else !inside (Tld.mixes x) (Tld.mixes y))=true))/\True) (st':=ASt.mk [(2,.ptr 0 []),(3,.ptr 8 []),(58,bv (bif bif bif bif bif !decide ((↑((Tld.when x).length):Int)=(↑((Tld.when y).length):Int)) then true else !decide ((↑((Tld.old x).length):Int)=(↑((Tld.old y).length):Int)) then true else !decide ((↑((Tld.mixed x).length):Int)=(↑((Tld.mixed y).length):Int)) then true else decide ((↑((Tld.whr x).length):Int) < (↑((Tld.whr y).length):Int)) then true else !inside (Tld.mixes x) (Tld.mixes y) then true else decide (Tld.fewest x < Tld.fewest y)))] [(0,.cells 62 (cTld x)),(8,.cells 62 (cTld y))] 416) (by kernel_rfl) ⟨tv,tv,tv,tv,tv,tv,tv,tv,(fun h0=>⟨⟨tv,tv⟩,tv⟩),(fun h1=>⟨⟨(fun h2=>h1),tv⟩,tv⟩),(fun h3=>⟨⟨(fun h4=>h3),tv⟩,tv⟩),(fun h5=>⟨⟨tv,tv⟩,tv⟩),(fun h6=>⟨⟨(fun h7=>h6),tv⟩,tv⟩),(fun h8=>⟨⟨(fun h9=>h8),tv⟩,tv⟩),(fun h10=>⟨⟨(fun h11=>h10),(fun h12=>h10),tv⟩,tv⟩),⟨(fun h13=>tv),(fun h14=>(o0 hp h14))⟩,tv,(fun h15=>⟨⟨tv,tv⟩,tv⟩),(fun h16=>⟨⟨(fun h17=>h16),tv⟩,tv⟩),(fun h18=>⟨⟨(fun h19=>h18),tv⟩,tv⟩),(fun h20=>⟨⟨tv,tv⟩,tv⟩),(fun h21=>⟨⟨(fun h22=>h21),tv⟩,tv⟩),(fun h23=>⟨⟨(fun h24=>h23),tv⟩,tv⟩),(fun h25=>⟨⟨(fun h26=>h25),(fun h27=>h25),tv⟩,tv⟩),⟨(fun h28=>tv),(fun h29=>(o1 hp h29))⟩,tv,(fun h30=>⟨⟨tv,tv⟩,tv⟩),(fun h31=>⟨⟨(fun h32=>h31),tv⟩,tv⟩),(fun h33=>⟨⟨(fun h34=>h33),tv⟩,tv⟩),(fun h35=>⟨⟨tv,tv⟩,tv⟩),(fun h36=>⟨⟨(fun h37=>h36),tv⟩,tv⟩),(fun h38=>⟨⟨(fun h39=>h38),tv⟩,tv⟩),(fun h40=>⟨⟨(fun h41=>h40),(fun h42=>h40),tv⟩,tv⟩),⟨(fun h43=>tv),(fun h44=>(o2 hp h44))⟩,tv,(fun h45=>⟨⟨tv,tv⟩,tv⟩),(fun h46=>⟨⟨(fun h47=>h46),tv⟩,tv⟩),(fun h48=>⟨⟨tv,tv⟩,tv⟩),(fun h49=>⟨⟨(fun h50=>h49),tv⟩,tv⟩),(fun h51=>⟨⟨tv,(fun h52=>h51),(fun h53=>h51),tv⟩,⟨rfl,rfl,tv⟩,(t28 (Tld.mixes x) (Tld.mixes y)),tv,tv,(fun i54=>tv)⟩),(fun h55=>⟨⟨(fun h56=>h55),tv⟩,tv⟩),⟨(fun h57=>tv),(fun h58=>(o3 hp h58))⟩,tv,(fun h59=>⟨⟨tv,tv⟩,tv⟩),(fun h60=>⟨⟨(fun h61=>h60),tv⟩,tv⟩),(fun h62=>⟨⟨tv,tv⟩,tv⟩),(fun h63=>⟨⟨(fun h64=>h63),tv⟩,tv⟩),(fun h65=>⟨⟨(fun h66=>h65),(fun h67=>h65),tv⟩,tv⟩),⟨(fun h68=>tv),(fun h69=>(o4 hp h69))⟩,tv⟩ ?_
 refine swp_cond (bif bif bif bif bif !decide ((↑((Tld.when x).length):Int)=(↑((Tld.when y).length):Int)) then true else !decide ((↑((Tld.old x).length):Int)=(↑((Tld.old y).length):Int)) then true else !decide ((↑((Tld.mixed x).length):Int)=(↑((Tld.mixed y).length):Int)) then true else decide ((↑((Tld.whr x).length):Int) < (↑((Tld.whr y).length):Int)) then true else !inside (Tld.mixes x) (Tld.mixes y) then true else decide (Tld.fewest x < Tld.fewest y)) (by kernel_rfl) (fun h=>by cases (h.symm.trans (o5 hp))) (fun _ => ?_)
 refine swp_skip (swp_seq (swp_seq ?_))
 refine sR (kt:=[2,3,5]) (kh:=[0,8]) (q:=True/\True) (st':=ASt.mk [(2,.ptr 0 []),(3,.ptr 8 []),(5,iv 0)] [(0,.cells 62 (cTld x)),(8,.cells 62 (cTld y))] 424) (by kernel_rfl) ⟨tv,tv⟩ ?_
 refine swp_block ?_
 refine swp_loopA (Hint.ann (h48a x y) [(2,AV.ptr 0 []),(3,AV.ptr 8 [])] [(0,OB.cells 62 (cTld x)),(8,OB.cells 62 (cTld y))] 10424) (ent_q hE [] [(0,.same 0),(8,.same 8)] [] [0,8] (((some (Src.same 0)=some (Src.same 0)/\nilP = [])/\(some (Src.same 8)=some (Src.same 8)/\nilP = [])/\(iv 0=iv (↑0:Int)/\nilN = [])/\True)/\((OB.cells 62 (cTld x)=OB.cells 62 (cTld x)/\true=true)/\(OB.cells 62 (cTld y)=OB.cells 62 (cTld y)/\true=true)/\True)/\T2) (by kernel_rfl) (by kernel_rfl) ⟨⟨⟨rfl,rfl⟩,⟨rfl,rfl⟩,⟨(congrArg iv (o6 hp)),rfl⟩,tv⟩,⟨⟨rfl,rfl⟩,⟨rfl,rfl⟩,tv⟩,rfl,rfl⟩) (o7 hp) (fun (x70:Nat) hx70 => ?_)
 refine swp_seq (swp_seq ?_)
 refine sR (kt:=[2,3,5,63]) (kh:=[0,8]) (q:=True/\True/\True/\True/\True/\True) (st':=ASt.mk [(2,.ptr 0 []),(3,.ptr 8 []),(5,iv (x70:Int)),(63,bv (decide ((x70:Int) < (↑((Tld.when x).length):Int))))] [(0,.cells 62 (cTld x)),(8,.cells 62 (cTld y))] 10464) (by kernel_rfl) ⟨tv,tv,tv,tv,tv,tv⟩ ?_
 refine swp_cond (decide ((x70:Int) < (↑((Tld.when x).length):Int))) (by kernel_rfl) (fun h71 => ?_) (fun h71 => ?_)
 ·refine swp_skip (swp_seq (swp_block (swp_seq ?_)))
  refine swp_region T0_ok mixed (cs:=[(10,CallSpec.eq (s28 ((Tld.when x).getD x70 default) ((Tld.when y).getD x70 default)) [true,true])]) (kt:=[2,3,5,77]) (kh:=[0,8]) (q:=True/\True/\True/\(0<=(x70:Int)/\(x70:Int) < (↑((Tld.when x).length):Int))/\True/\True/\True/\True/\(0<=(x70:Int)/\(x70:Int) < (↑((Tld.when y).length):Int))/\True/\((AV.agg (cSpan ((Tld.when x).getD x70 default))=AV.agg (cSpan ((Tld.when x).getD x70 default))/\AV.agg (cSpan ((Tld.when y).getD x70 default))=AV.agg (cSpan ((Tld.when y).getD x70 default))/\True)/\Triple Try.prog 28 (s28 ((Tld.when x).getD x70 default) ((Tld.when y).getD x70 default))/\True/\True /\ ∀ (i72:Env),True)/\True/\True) (st':=ASt.mk [(2,.ptr 0 []),(3,.ptr 8 []),(5,iv (x70:Int)),(77,bv !inside ((Tld.when x).getD x70 default) ((Tld.when y).getD x70 default))] [(0,.cells 62 (cTld x)),(8,.cells 62 (cTld y))] 10560) (by kernel_rfl) ⟨tv,tv,tv,⟨(o8 hp x70 hx70 h71),(o9 hp x70 hx70 h71)⟩,tv,tv,tv,tv,⟨(o10 hp x70 hx70 h71),(o11 hp x70 hx70 h71)⟩,tv,⟨⟨rfl,rfl,tv⟩,(t28 ((Tld.when x).getD x70 default) ((Tld.when y).getD x70 default)),tv,tv,(fun i72=>tv)⟩,tv,tv⟩ ?_
  refine swp_cond (!inside ((Tld.when x).getD x70 default) ((Tld.when y).getD x70 default)) (by kernel_rfl) (fun h=>by cases (h.symm.trans (o12 hp x70 hx70 h71))) (fun _ => ?_)
  refine swp_skip ?_
  refine sR (kt:=[2,3,5]) (kh:=[0,8]) (q:=True/\inI ((x70:Int) + 1)/\True/\True) (st':=ASt.mk [(2,.ptr 0 []),(3,.ptr 8 []),(5,iv ((x70:Int) + 1))] [(0,.cells 62 (cTld x)),(8,.cells 62 (cTld y))] 10584) (by kernel_rfl) ⟨tv,(o13 hp x70 hx70 h71),tv,tv⟩ ?_
  exact loop_next (Hint.ann (h48a x y) [(2,AV.ptr 0 []),(3,AV.ptr 8 [])] [(0,OB.cells 62 (cTld x)),(8,OB.cells 62 (cTld y))] 10424) x70 (ent_q hE [] [(0,.same 0),(8,.same 8)] [] [0,8] (((some (Src.same 0)=some (Src.same 0)/\nilP = [])/\(some (Src.same 8)=some (Src.same 8)/\nilP = [])/\(iv ((x70:Int) + 1)=iv (↑(x70 + 1):Int)/\nilN = [])/\True)/\((OB.cells 62 (cTld x)=OB.cells 62 (cTld x)/\true=true)/\(OB.cells 62 (cTld y)=OB.cells 62 (cTld y)/\true=true)/\True)/\T2) (by kernel_rfl) (by kernel_rfl) ⟨⟨⟨rfl,rfl⟩,⟨rfl,rfl⟩,⟨(congrArg iv (o14 hp x70 hx70 h71)),rfl⟩,tv⟩,⟨⟨rfl,rfl⟩,⟨rfl,rfl⟩,tv⟩,rfl,rfl⟩) (o15 hp x70 hx70 h71) (o16 hp x70 hx70 h71)
 ·refine swp_exit (swp_seq (swp_seq ?_))
  refine sR (kt:=[2,3,6]) (kh:=[0,8]) (q:=True/\True) (st':=ASt.mk [(2,.ptr 0 []),(3,.ptr 8 []),(6,iv 0)] [(0,.cells 62 (cTld x)),(8,.cells 62 (cTld y))] 10472) (by kernel_rfl) ⟨tv,tv⟩ ?_
  refine swp_block ?_
  refine swp_loopA (Hint.ann (h48b x y) [(2,AV.ptr 0 []),(3,AV.ptr 8 [])] [(0,OB.cells 62 (cTld x)),(8,OB.cells 62 (cTld y))] 20472) (ent_q hE [] [(0,.same 0),(8,.same 8)] [] [0,8] (((some (Src.same 0)=some (Src.same 0)/\nilP = [])/\(some (Src.same 8)=some (Src.same 8)/\nilP = [])/\(iv 0=iv (↑0:Int)/\nilN = [])/\True)/\((OB.cells 62 (cTld x)=OB.cells 62 (cTld x)/\true=true)/\(OB.cells 62 (cTld y)=OB.cells 62 (cTld y)/\true=true)/\True)/\T2) (by kernel_rfl) (by kernel_rfl) ⟨⟨⟨rfl,rfl⟩,⟨rfl,rfl⟩,⟨(congrArg iv (o17 hp x70 hx70 h71)),rfl⟩,tv⟩,⟨⟨rfl,rfl⟩,⟨rfl,rfl⟩,tv⟩,rfl,rfl⟩) (o18 hp x70 hx70 h71) (fun (x73:Nat) hx73 => ?_)
  refine swp_seq (swp_seq ?_)
  refine sR (kt:=[2,3,6,82]) (kh:=[0,8]) (q:=True/\True/\True/\True/\True/\True) (st':=ASt.mk [(2,.ptr 0 []),(3,.ptr 8 []),(6,iv (x73:Int)),(82,bv (decide ((x73:Int) < (↑((Tld.old x).length):Int))))] [(0,.cells 62 (cTld x)),(8,.cells 62 (cTld y))] 20512) (by kernel_rfl) ⟨tv,tv,tv,tv,tv,tv⟩ ?_
  refine swp_cond (decide ((x73:Int) < (↑((Tld.old x).length):Int))) (by kernel_rfl) (fun h74 => ?_) (fun h74 => ?_)
  ·refine swp_skip (swp_seq (swp_block (swp_seq ?_)))
   refine swp_region T0_ok mixed (cs:=[(10,CallSpec.eq (s28 ((Tld.old x).getD x73 default) ((Tld.old y).getD x73 default)) [true,true])]) (kt:=[2,3,6,96]) (kh:=[0,8]) (q:=True/\True/\True/\(0<=(x73:Int)/\(x73:Int) < (↑((Tld.old x).length):Int))/\True/\True/\True/\True/\(0<=(x73:Int)/\(x73:Int) < (↑((Tld.old y).length):Int))/\True/\((AV.agg (cSpan ((Tld.old x).getD x73 default))=AV.agg (cSpan ((Tld.old x).getD x73 default))/\AV.agg (cSpan ((Tld.old y).getD x73 default))=AV.agg (cSpan ((Tld.old y).getD x73 default))/\True)/\Triple Try.prog 28 (s28 ((Tld.old x).getD x73 default) ((Tld.old y).getD x73 default))/\True/\True /\ ∀ (i75:Env),True)/\True/\True) (st':=ASt.mk [(2,.ptr 0 []),(3,.ptr 8 []),(6,iv (x73:Int)),(96,bv !inside ((Tld.old x).getD x73 default) ((Tld.old y).getD x73 default))] [(0,.cells 62 (cTld x)),(8,.cells 62 (cTld y))] 20608) (by kernel_rfl) ⟨tv,tv,tv,⟨(o19 hp x70 hx70 h71 x73 hx73 h74),(o20 hp x70 hx70 h71 x73 hx73 h74)⟩,tv,tv,tv,tv,⟨(o21 hp x70 hx70 h71 x73 hx73 h74),(o22 hp x70 hx70 h71 x73 hx73 h74)⟩,tv,⟨⟨rfl,rfl,tv⟩,(t28 ((Tld.old x).getD x73 default) ((Tld.old y).getD x73 default)),tv,tv,(fun i75=>tv)⟩,tv,tv⟩ ?_
   refine swp_cond (!inside ((Tld.old x).getD x73 default) ((Tld.old y).getD x73 default)) (by kernel_rfl) (fun h=>by cases (h.symm.trans (o23 hp x70 hx70 h71 x73 hx73 h74))) (fun _ => ?_)
   refine swp_skip ?_
   refine sR (kt:=[2,3,6]) (kh:=[0,8]) (q:=True/\inI ((x73:Int) + 1)/\True/\True) (st':=ASt.mk [(2,.ptr 0 []),(3,.ptr 8 []),(6,iv ((x73:Int) + 1))] [(0,.cells 62 (cTld x)),(8,.cells 62 (cTld y))] 20632) (by kernel_rfl) ⟨tv,(o24 hp x70 hx70 h71 x73 hx73 h74),tv,tv⟩ ?_
   exact loop_next (Hint.ann (h48b x y) [(2,AV.ptr 0 []),(3,AV.ptr 8 [])] [(0,OB.cells 62 (cTld x)),(8,OB.cells 62 (cTld y))] 20472) x73 (ent_q hE [] [(0,.same 0),(8,.same 8)] [] [0,8] (((some (Src.same 0)=some (Src.same 0)/\nilP = [])/\(some (Src.same 8)=some (Src.same 8)/\nilP = [])/\(iv ((x73:Int) + 1)=iv (↑(x73 + 1):Int)/\nilN = [])/\True)/\((OB.cells 62 (cTld x)=OB.cells 62 (cTld x)/\true=true)/\(OB.cells 62 (cTld y)=OB.cells 62 (cTld y)/\true=true)/\True)/\T2) (by kernel_rfl) (by kernel_rfl) ⟨⟨⟨rfl,rfl⟩,⟨rfl,rfl⟩,⟨(congrArg iv (o25 hp x70 hx70 h71 x73 hx73 h74)),rfl⟩,tv⟩,⟨⟨rfl,rfl⟩,⟨rfl,rfl⟩,tv⟩,rfl,rfl⟩) (o26 hp x70 hx70 h71 x73 hx73 h74) (o27 hp x70 hx70 h71 x73 hx73 h74)
  ·refine swp_exit (swp_seq (swp_seq ?_))
   refine sR (kt:=[2,3,7]) (kh:=[0,8]) (q:=True/\True) (st':=ASt.mk [(2,.ptr 0 []),(3,.ptr 8 []),(7,iv 0)] [(0,.cells 62 (cTld x)),(8,.cells 62 (cTld y))] 20520) (by kernel_rfl) ⟨tv,tv⟩ ?_
   refine swp_block ?_
   refine swp_loopA (Hint.ann (h48c x y) [(2,AV.ptr 0 []),(3,AV.ptr 8 [])] [(0,OB.cells 62 (cTld x)),(8,OB.cells 62 (cTld y))] 30520) (ent_q hE [] [(0,.same 0),(8,.same 8)] [] [0,8] (((some (Src.same 0)=some (Src.same 0)/\nilP = [])/\(some (Src.same 8)=some (Src.same 8)/\nilP = [])/\(iv 0=iv (↑0:Int)/\nilN = [])/\True)/\((OB.cells 62 (cTld x)=OB.cells 62 (cTld x)/\true=true)/\(OB.cells 62 (cTld y)=OB.cells 62 (cTld y)/\true=true)/\True)/\T2) (by kernel_rfl) (by kernel_rfl) ⟨⟨⟨rfl,rfl⟩,⟨rfl,rfl⟩,⟨(congrArg iv (o28 hp x70 hx70 h71 x73 hx73 h74)),rfl⟩,tv⟩,⟨⟨rfl,rfl⟩,⟨rfl,rfl⟩,tv⟩,rfl,rfl⟩) (o29 hp x70 hx70 h71 x73 hx73 h74) (fun (x76:Nat) hx76 => ?_)
   refine swp_seq (swp_seq ?_)
   refine sR (kt:=[2,3,7,101]) (kh:=[0,8]) (q:=True/\True/\True/\True/\True/\True) (st':=ASt.mk [(2,.ptr 0 []),(3,.ptr 8 []),(7,iv (x76:Int)),(101,bv (decide ((x76:Int) < (↑((Tld.mixed x).length):Int))))] [(0,.cells 62 (cTld x)),(8,.cells 62 (cTld y))] 30560) (by kernel_rfl) ⟨tv,tv,tv,tv,tv,tv⟩ ?_
   refine swp_cond (decide ((x76:Int) < (↑((Tld.mixed x).length):Int))) (by kernel_rfl) (fun h77 => ?_) (fun h77 => ?_)
   ·refine swp_skip (swp_seq (swp_block (swp_seq ?_)))
    refine sR (kt:=[2,3,7,122]) (kh:=[0,8]) (q:=True/\True/\True/\(0<=(x76:Int)/\(x76:Int) < (↑((Tld.mixed y).length):Int))/\True/\True/\True/\((!decide ((Tld.mixed y).getD x76 0=3))->(True/\True)/\True)/\((!decide ((Tld.mixed y).getD x76 0=3))->(((!decide ((Tld.mixed y).getD x76 0=3))->(!decide ((Tld.mixed y).getD x76 0=3))=true)/\True)/\True)/\((!decide ((Tld.mixed y).getD x76 0=3))->(True/\True)/\True)/\((!decide ((Tld.mixed y).getD x76 0=3))->(((!decide ((Tld.mixed y).getD x76 0=3))->(!decide ((Tld.mixed y).getD x76 0=3))=true)/\((!decide ((Tld.mixed y).getD x76 0=3))->(!decide ((Tld.mixed y).getD x76 0=3))=true)/\True)/\0<=(x76:Int)/\(x76:Int) < (↑((Tld.mixed x).length):Int))/\((!decide ((Tld.mixed y).getD x76 0=3))->(((!decide ((Tld.mixed y).getD x76 0=3))->(!decide ((Tld.mixed y).getD x76 0=3))=true)/\True)/\True)/\((!decide ((Tld.mixed y).getD x76 0=3))->(True/\True)/\True)/\((!decide ((Tld.mixed y).getD x76 0=3))->(((!decide ((Tld.mixed y).getD x76 0=3))->(!decide ((Tld.mixed y).getD x76 0=3))=true)/\True)/\True)/\((!decide ((Tld.mixed y).getD x76 0=3))->(True/\True)/\True)/\((!decide ((Tld.mixed y).getD x76 0=3))->(((!decide ((Tld.mixed y).getD x76 0=3))->(!decide ((Tld.mixed y).getD x76 0=3))=true)/\((!decide ((Tld.mixed y).getD x76 0=3))->(!decide ((Tld.mixed y).getD x76 0=3))=true)/\True)/\0<=(x76:Int)/\(x76:Int) < (↑((Tld.mixed y).length):Int))/\((!decide ((Tld.mixed y).getD x76 0=3))->(((!decide ((Tld.mixed y).getD x76 0=3))->(!decide ((Tld.mixed y).getD x76 0=3))=true)/\True)/\True)/\((!decide ((Tld.mixed y).getD x76 0=3))->(((!decide ((Tld.mixed y).getD x76 0=3))->(!decide ((Tld.mixed y).getD x76 0=3))=true)/\((!decide ((Tld.mixed y).getD x76 0=3))->(!decide ((Tld.mixed y).getD x76 0=3))=true)/\True)/\True)/\(((!decide ((Tld.mixed y).getD x76 0=3))->(!decide ((Tld.mixed y).getD x76 0=3))=true)/\((!decide ((Tld.mixed y).getD x76 0=3))=false->True))/\True) (st':=ASt.mk [(2,.ptr 0 []),(3,.ptr 8 []),(7,iv (x76:Int)),(122,bv (bif !decide ((Tld.mixed y).getD x76 0=3) then !decide ((Tld.mixed x).getD x76 0=(Tld.mixed y).getD x76 0) else false))] [(0,.cells 62 (cTld x)),(8,.cells 62 (cTld y))] 30712) (by kernel_rfl) ⟨tv,tv,tv,⟨(o30 hp x70 hx70 h71 x73 hx73 h74 x76 hx76 h77),(o31 hp x70 hx70 h71 x73 hx73 h74 x76 hx76 h77)⟩,tv,tv,tv,(fun h78=>⟨⟨tv,tv⟩,tv⟩),(fun h79=>⟨⟨(fun h80=>h79),tv⟩,tv⟩),(fun h81=>⟨⟨tv,tv⟩,tv⟩),(fun h82=>⟨⟨(fun h83=>h82),(fun h84=>h82),tv⟩,(o32 hp x70 hx70 h71 x73 hx73 h74 x76 hx76 h77 h82),(o33 hp x70 hx70 h71 x73 hx73 h74 x76 hx76 h77 h82)⟩),(fun h85=>⟨⟨(fun h86=>h85),tv⟩,tv⟩),(fun h87=>⟨⟨tv,tv⟩,tv⟩),(fun h88=>⟨⟨(fun h89=>h88),tv⟩,tv⟩),(fun h90=>⟨⟨tv,tv⟩,tv⟩),(fun h91=>⟨⟨(fun h92=>h91),(fun h93=>h91),tv⟩,(o34 hp x70 hx70 h71 x73 hx73 h74 x76 hx76 h77 h91),(o35 hp x70 hx70 h71 x73 hx73 h74 x76 hx76 h77 h91)⟩),(fun h94=>⟨⟨(fun h95=>h94),tv⟩,tv⟩),(fun h96=>⟨⟨(fun h97=>h96),(fun h98=>h96),tv⟩,tv⟩),⟨(fun h99=>h99),(fun h100=>tv)⟩,tv⟩ ?_
    refine swp_cond (bif !decide ((Tld.mixed y).getD x76 0=3) then !decide ((Tld.mixed x).getD x76 0=(Tld.mixed y).getD x76 0) else false) (by kernel_rfl) (fun h=>by cases (h.symm.trans (o36 hp x70 hx70 h71 x73 hx73 h74 x76 hx76 h77))) (fun _ => ?_)
    refine swp_skip ?_
    refine sR (kt:=[2,3,7]) (kh:=[0,8]) (q:=True/\inI ((x76:Int) + 1)/\True/\True) (st':=ASt.mk [(2,.ptr 0 []),(3,.ptr 8 []),(7,iv ((x76:Int) + 1))] [(0,.cells 62 (cTld x)),(8,.cells 62 (cTld y))] 30736) (by kernel_rfl) ⟨tv,(o37 hp x70 hx70 h71 x73 hx73 h74 x76 hx76 h77),tv,tv⟩ ?_
    exact loop_next (Hint.ann (h48c x y) [(2,AV.ptr 0 []),(3,AV.ptr 8 [])] [(0,OB.cells 62 (cTld x)),(8,OB.cells 62 (cTld y))] 30520) x76 (ent_q hE [] [(0,.same 0),(8,.same 8)] [] [0,8] (((some (Src.same 0)=some (Src.same 0)/\nilP = [])/\(some (Src.same 8)=some (Src.same 8)/\nilP = [])/\(iv ((x76:Int) + 1)=iv (↑(x76 + 1):Int)/\nilN = [])/\True)/\((OB.cells 62 (cTld x)=OB.cells 62 (cTld x)/\true=true)/\(OB.cells 62 (cTld y)=OB.cells 62 (cTld y)/\true=true)/\True)/\T2) (by kernel_rfl) (by kernel_rfl) ⟨⟨⟨rfl,rfl⟩,⟨rfl,rfl⟩,⟨(congrArg iv (o38 hp x70 hx70 h71 x73 hx73 h74 x76 hx76 h77)),rfl⟩,tv⟩,⟨⟨rfl,rfl⟩,⟨rfl,rfl⟩,tv⟩,rfl,rfl⟩) (o39 hp x70 hx70 h71 x73 hx73 h74 x76 hx76 h77) (o40 hp x70 hx70 h71 x73 hx73 h74 x76 hx76 h77)
   ·refine swp_exit (swp_seq (swp_seq ?_))
    refine sR (kt:=[2,3,8]) (kh:=[0,8]) (q:=True/\True) (st':=ASt.mk [(2,.ptr 0 []),(3,.ptr 8 []),(8,iv 0)] [(0,.cells 62 (cTld x)),(8,.cells 62 (cTld y))] 30568) (by kernel_rfl) ⟨tv,tv⟩ ?_
    refine swp_block ?_
    refine swp_loopA (Hint.ann (h48d x y) [(2,AV.ptr 0 []),(3,AV.ptr 8 [])] [(0,OB.cells 62 (cTld x)),(8,OB.cells 62 (cTld y))] 40568) (ent_q hE [] [(0,.same 0),(8,.same 8)] [] [0,8] (((some (Src.same 0)=some (Src.same 0)/\nilP = [])/\(some (Src.same 8)=some (Src.same 8)/\nilP = [])/\(iv 0=iv (↑0:Int)/\nilN = [])/\True)/\((OB.cells 62 (cTld x)=OB.cells 62 (cTld x)/\true=true)/\(OB.cells 62 (cTld y)=OB.cells 62 (cTld y)/\true=true)/\True)/\T2) (by kernel_rfl) (by kernel_rfl) ⟨⟨⟨rfl,rfl⟩,⟨rfl,rfl⟩,⟨(congrArg iv (o41 hp x70 hx70 h71 x73 hx73 h74 x76 hx76 h77)),rfl⟩,tv⟩,⟨⟨rfl,rfl⟩,⟨rfl,rfl⟩,tv⟩,rfl,rfl⟩) (o42 hp x70 hx70 h71 x73 hx73 h74 x76 hx76 h77) (fun (x101:Nat) hx101 => ?_)
    refine swp_seq (swp_seq ?_)
    refine sR (kt:=[2,3,8,127]) (kh:=[0,8]) (q:=True/\True/\True/\True/\True/\True) (st':=ASt.mk [(2,.ptr 0 []),(3,.ptr 8 []),(8,iv (x101:Int)),(127,bv (decide ((x101:Int) < (↑((Tld.whr y).length):Int))))] [(0,.cells 62 (cTld x)),(8,.cells 62 (cTld y))] 40608) (by kernel_rfl) ⟨tv,tv,tv,tv,tv,tv⟩ ?_
    refine swp_cond (decide ((x101:Int) < (↑((Tld.whr y).length):Int))) (by kernel_rfl) (fun h102 => ?_) (fun h102 => ?_)
    ·refine swp_skip (swp_seq (swp_block (swp_seq ?_)))
     refine sR (kt:=[2,3,8,9]) (kh:=[0,8]) (q:=True/\True) (st':=ASt.mk [(2,.ptr 0 []),(3,.ptr 8 []),(8,iv (x101:Int)),(9,iv 0)] [(0,.cells 62 (cTld x)),(8,.cells 62 (cTld y))] 40616) (by kernel_rfl) ⟨tv,tv⟩ ?_
     refine swp_block ?_
     refine swp_loopA (Hint.ann (h48e x y x101) [(2,AV.ptr 0 []),(3,AV.ptr 8 []),(8,iv (x101:Int))] [(0,OB.cells 62 (cTld x)),(8,OB.cells 62 (cTld y))] 50616) (ent_q hE [] [(0,.same 0),(8,.same 8)] [8] [0,8] (((some (Src.same 0)=some (Src.same 0)/\nilP = [])/\(some (Src.same 8)=some (Src.same 8)/\nilP = [])/\(iv (x101:Int)=iv (x101:Int)/\true=true)/\(iv 0=iv (↑0:Int)/\nilN = [])/\True)/\((OB.cells 62 (cTld x)=OB.cells 62 (cTld x)/\true=true)/\(OB.cells 62 (cTld y)=OB.cells 62 (cTld y)/\true=true)/\True)/\T2) (by kernel_rfl) (by kernel_rfl) ⟨⟨⟨rfl,rfl⟩,⟨rfl,rfl⟩,⟨rfl,rfl⟩,⟨(congrArg iv (o43 hp x70 hx70 h71 x73 hx73 h74 x76 hx76 h77 x101 hx101 h102)),rfl⟩,tv⟩,⟨⟨rfl,rfl⟩,⟨rfl,rfl⟩,tv⟩,rfl,rfl⟩) (o44 hp x70 hx70 h71 x73 hx73 h74 x76 hx76 h77 x101 hx101 h102) (fun (x103:Nat) hx103 => ?_)
     refine swp_seq (swp_seq ?_)
     refine sR (kt:=[2,3,8,9,137]) (kh:=[0,8]) (q:=True/\True/\True/\True/\(0<=(x101:Int)/\(x101:Int) < (↑((Tld.whr x).length):Int))/\True/\True/\True/\True) (st':=ASt.mk [(2,.ptr 0 []),(3,.ptr 8 []),(8,iv (x101:Int)),(9,iv (x103:Int)),(137,bv (decide ((x103:Int) < (↑(((Tld.whr x).getD x101 []).length):Int))))] [(0,.cells 62 (cTld x)),(8,.cells 62 (cTld y))] 50680) (by kernel_rfl) ⟨tv,tv,tv,tv,⟨(o45 hp x70 hx70 h71 x73 hx73 h74 x76 hx76 h77 x101 hx101 h102 x103 hx103),(o46 hp x70 hx70 h71 x73 hx73 h74 x76 hx76 h77 x101 hx101 h102 x103 hx103)⟩,tv,tv,tv,tv⟩ ?_
     refine swp_cond (decide ((x103:Int) < (↑(((Tld.whr x).getD x101 []).length):Int))) (by kernel_rfl) (fun h104 => ?_) (fun h104 => ?_)
     ·refine swp_skip (swp_seq (swp_block (swp_seq ?_)))
      refine swp_region T0_ok mixed (cs:=[(13,CallSpec.eq (s51 ((Tld.whr y).getD x101 []) (((Tld.whr x).getD x101 []).getD x103 0)) [true,true])]) (kt:=[2,3,8,9,154]) (kh:=[0,8]) (q:=True/\True/\True/\(0<=(x101:Int)/\(x101:Int) < (↑((Tld.whr y).length):Int))/\True/\True/\True/\True/\(0<=(x101:Int)/\(x101:Int) < (↑((Tld.whr x).length):Int))/\True/\True/\(0<=(x103:Int)/\(x103:Int) < (↑(((Tld.whr x).getD x101 []).length):Int))/\True/\((aInts ((Tld.whr y).getD x101 [])=aInts ((Tld.whr y).getD x101 [])/\iv (((Tld.whr x).getD x101 []).getD x103 0)=iv (((Tld.whr x).getD x101 []).getD x103 0)/\True)/\Triple Try.prog 51 (s51 ((Tld.whr y).getD x101 []) (((Tld.whr x).getD x101 []).getD x103 0))/\((Tld.whr y).getD x101 []).length<=1125899906842624/\True /\ ∀ (i105:Env),True)/\True/\True) (st':=ASt.mk [(2,.ptr 0 []),(3,.ptr 8 []),(8,iv (x101:Int)),(9,iv (x103:Int)),(154,bv !isIn ((Tld.whr y).getD x101 []) (((Tld.whr x).getD x101 []).getD x103 0))] [(0,.cells 62 (cTld x)),(8,.cells 62 (cTld y))] 50800) (by kernel_rfl) ⟨tv,tv,tv,⟨(o47 hp x70 hx70 h71 x73 hx73 h74 x76 hx76 h77 x101 hx101 h102 x103 hx103 h104),(o48 hp x70 hx70 h71 x73 hx73 h74 x76 hx76 h77 x101 hx101 h102 x103 hx103 h104)⟩,tv,tv,tv,tv,⟨(o49 hp x70 hx70 h71 x73 hx73 h74 x76 hx76 h77 x101 hx101 h102 x103 hx103 h104),(o50 hp x70 hx70 h71 x73 hx73 h74 x76 hx76 h77 x101 hx101 h102 x103 hx103 h104)⟩,tv,tv,⟨(o51 hp x70 hx70 h71 x73 hx73 h74 x76 hx76 h77 x101 hx101 h102 x103 hx103 h104),(o52 hp x70 hx70 h71 x73 hx73 h74 x76 hx76 h77 x101 hx101 h102 x103 hx103 h104)⟩,tv,⟨⟨rfl,rfl,tv⟩,(t51 ((Tld.whr y).getD x101 []) (((Tld.whr x).getD x101 []).getD x103 0)),(o53 hp x70 hx70 h71 x73 hx73 h74 x76 hx76 h77 x101 hx101 h102 x103 hx103 h104),tv,(fun i105=>tv)⟩,tv,tv⟩ ?_
      refine swp_cond (!isIn ((Tld.whr y).getD x101 []) (((Tld.whr x).getD x101 []).getD x103 0)) (by kernel_rfl) (fun h=>by cases (h.symm.trans (o54 hp x70 hx70 h71 x73 hx73 h74 x76 hx76 h77 x101 hx101 h102 x103 hx103 h104))) (fun _ => ?_)
      refine swp_skip ?_
      refine sR (kt:=[2,3,8,9]) (kh:=[0,8]) (q:=True/\inI ((x103:Int) + 1)/\True/\True) (st':=ASt.mk [(2,.ptr 0 []),(3,.ptr 8 []),(8,iv (x101:Int)),(9,iv ((x103:Int) + 1))] [(0,.cells 62 (cTld x)),(8,.cells 62 (cTld y))] 50824) (by kernel_rfl) ⟨tv,(o55 hp x70 hx70 h71 x73 hx73 h74 x76 hx76 h77 x101 hx101 h102 x103 hx103 h104),tv,tv⟩ ?_
      exact loop_next (Hint.ann (h48e x y x101) [(2,AV.ptr 0 []),(3,AV.ptr 8 []),(8,iv (x101:Int))] [(0,OB.cells 62 (cTld x)),(8,OB.cells 62 (cTld y))] 50616) x103 (ent_q hE [] [(0,.same 0),(8,.same 8)] [8] [0,8] (((some (Src.same 0)=some (Src.same 0)/\nilP = [])/\(some (Src.same 8)=some (Src.same 8)/\nilP = [])/\(iv (x101:Int)=iv (x101:Int)/\true=true)/\(iv ((x103:Int) + 1)=iv (↑(x103 + 1):Int)/\nilN = [])/\True)/\((OB.cells 62 (cTld x)=OB.cells 62 (cTld x)/\true=true)/\(OB.cells 62 (cTld y)=OB.cells 62 (cTld y)/\true=true)/\True)/\T2) (by kernel_rfl) (by kernel_rfl) ⟨⟨⟨rfl,rfl⟩,⟨rfl,rfl⟩,⟨rfl,rfl⟩,⟨(congrArg iv (o56 hp x70 hx70 h71 x73 hx73 h74 x76 hx76 h77 x101 hx101 h102 x103 hx103 h104)),rfl⟩,tv⟩,⟨⟨rfl,rfl⟩,⟨rfl,rfl⟩,tv⟩,rfl,rfl⟩) (o57 hp x70 hx70 h71 x73 hx73 h74 x76 hx76 h77 x101 hx101 h102 x103 hx103 h104) (o58 hp x70 hx70 h71 x73 hx73 h74 x76 hx76 h77 x101 hx101 h102 x103 hx103 h104)
     ·refine swp_exit ?_
      refine sR (kt:=[2,3,8]) (kh:=[0,8]) (q:=True/\inI ((x101:Int) + 1)/\True/\True) (st':=ASt.mk [(2,.ptr 0 []),(3,.ptr 8 []),(8,iv ((x101:Int) + 1))] [(0,.cells 62 (cTld x)),(8,.cells 62 (cTld y))] 50704) (by kernel_rfl) ⟨tv,(o59 hp x70 hx70 h71 x73 hx73 h74 x76 hx76 h77 x101 hx101 h102 x103 hx103 h104),tv,tv⟩ ?_
      exact loop_next (Hint.ann (h48d x y) [(2,AV.ptr 0 []),(3,AV.ptr 8 [])] [(0,OB.cells 62 (cTld x)),(8,OB.cells 62 (cTld y))] 40568) x101 (ent_q hE [] [(0,.same 0),(8,.same 8)] [] [0,8] (((some (Src.same 0)=some (Src.same 0)/\nilP = [])/\(some (Src.same 8)=some (Src.same 8)/\nilP = [])/\(iv ((x101:Int) + 1)=iv (↑(x101 + 1):Int)/\nilN = [])/\True)/\((OB.cells 62 (cTld x)=OB.cells 62 (cTld x)/\true=true)/\(OB.cells 62 (cTld y)=OB.cells 62 (cTld y)/\true=true)/\True)/\T2) (by kernel_rfl) (by kernel_rfl) ⟨⟨⟨rfl,rfl⟩,⟨rfl,rfl⟩,⟨(congrArg iv (o60 hp x70 hx70 h71 x73 hx73 h74 x76 hx76 h77 x101 hx101 h102 x103 hx103 h104)),rfl⟩,tv⟩,⟨⟨rfl,rfl⟩,⟨rfl,rfl⟩,tv⟩,rfl,rfl⟩) (o61 hp x70 hx70 h71 x73 hx73 h74 x76 hx76 h77 x101 hx101 h102 x103 hx103 h104) (o62 hp x70 hx70 h71 x73 hx73 h74 x76 hx76 h77 x101 hx101 h102 x103 hx103 h104)
    ·refine swp_exit (swp_seq ?_)
     refine sR (kt:=[4]) (kh:=[]) (q:=True/\True) (st':=ASt.mk [(4,bv true)] [] 40616) (by kernel_rfl) ⟨tv,tv⟩ ?_
     refine swp_ret ?_
     exact ret_q [] ((True/\True)/\(bv true=bv true/\nilN = [])/\T3) (by kernel_rfl) ⟨⟨tv,tv⟩,⟨rfl,rfl⟩,rfl,rfl,rfl⟩
theorem t48 (x y:Tld):Triple Try.prog 48 (s48 x y):=by
 apply w48
 all_goals (first | ((repeat intro _) <;> (try simp only [v0,v1,v2,v3,v4,v5,v6,v7,v8,v9,inI,fits,Go.Sh.small] at *) <;> first | (exact rfl) | omega | exact vz | (simp_all; done) | (simp_all; omega)) | skip)
 case o5 =>
  intro h
  have h1:=h.wl.1; have h2:=h.ol.1; have h3:=h.ml.1; have h4:=h.hl.1; have h5:=h.few
  rw [h.mixes]
  have a4:¬ (x.whr.length:Int) < y.whr.length:=by omega
  have a5:¬ x.fewest < y.fewest:=by omega
  simp [h1,h2,h3,a5]
  omega
 all_goals (intro h a ha hal; simp only [decide_eq_true_eq,decide_eq_false_iff_not] at hal; have h1:=h.wl; have h2:=h.ol; have h3:=h.ml; have h4:=h.hl)
 case o11=>omega
 case o12=>rw [h.when a (by omega)]; rfl
 case o13=>exact ⟨by omega,by omega⟩
 all_goals (intro b hb hbl; simp only [decide_eq_true_eq,decide_eq_false_iff_not] at hbl)
 case o22=>omega
 case o23=>rw [h.old b (by omega)]; rfl
 case o24=>exact ⟨by omega,by omega⟩
 all_goals (intro c hc hcl; simp only [decide_eq_true_eq,decide_eq_false_iff_not] at hcl)
 case o31=>omega
 case o35=>intro _; omega
 case o36 =>
  rcases h.mixed c (by omega) with e | e
  ·rw [e]; rfl
  ·rw [e]; simp
 case o37=>exact ⟨by omega,by omega⟩
 all_goals (intro d hd hdl e he; simp only [decide_eq_true_eq,decide_eq_false_iff_not] at hdl)
 case o46=>omega
 all_goals (intro hel; simp only [decide_eq_true_eq,decide_eq_false_iff_not] at hel; obtain ⟨g1,g2,g3⟩:=h.whr d (by omega))
 case o50=>omega
 case o53=>omega
 case o54=>rw [g1 e (by omega)]; rfl
 case o55=>exact ⟨by omega,by omega⟩
 case o59=>exact ⟨by omega,by omega⟩
end Go.Ab
namespace Go.Sh
theorem okFndA_at {r:Run} (h:okRun r=true) {f:Nat} (hf:f < r.found.length):okFndA r (fnd r f)=true:=by
 simp only [okRun,Bool.and_eq_true] at h
 exact Go.Ab.idx_all default h.2 hf
end Go.Sh
namespace Go.Sh
theorem span_sub {o r:Run} {x y:List Int} {m p:Nat} (hc:(chg (mach r m) p).lo<=(chg (mach o m) p).lo/\(chg (mach o m) p).hi<=(chg (mach r m) p).hi)
  (h:∀ i,i < y.length->y.getD i 0=(m:Int) -> ∃ j,j < x.length/\x.getD j 0=(m:Int)/\(fnd o j).minute=(fnd r i).minute/\((fnd r i).new.getD p 0 = -1 ∨ (fnd o j).new.getD p 0=(fnd r i).new.getD p 0)) :
  (spanOf r y m p).lo<=(spanOf o x m p).lo/\(spanOf o x m p).hi<=(spanOf r y m p).hi:=by
 obtain ⟨a1,a2⟩:=spanOf_lo.1 (Int.le_refl (spanOf o x m p).lo)
 obtain ⟨b1,b2⟩:=spanOf_hi.1 (Int.le_refl (spanOf o x m p).hi)
 refine ⟨spanOf_lo.2 ⟨by omega,fun i hi e e2 => ?_⟩,spanOf_hi.2 ⟨by omega,fun i hi e e2 => ?_⟩⟩
 ·obtain ⟨j,hj,ej,em,en⟩:=h i hi e
  rw [← em]
  exact a2 j hj ej (by omega)
 ·obtain ⟨j,hj,ej,em,en⟩:=h i hi e
  rw [← em]
  exact b2 j hj ej (by omega)
theorem froms_mem {r o:Run} (okr:Ok r) (oko:Ok o) (hm:o.machines.length=r.machines.length) (hp:o.plates=r.plates) {x y:List Int} (hx:x ∈ fromsOf o) (hy:y.length=r.found.length /\ ∀ i,i < r.found.length->y.getD i 0 ∈ (fnd r i).frm)
  (hs:∀ m,m < r.machines.length -> ∀ p:Nat,(p:Int) < r.plates->(spanOf r y m p).lo<=(spanOf o x m p).lo/\(spanOf o x m p).hi<=(spanOf r y m p).hi):y ∈ fromsOf r:=by
 refine mem_froms.2 ⟨hy,(canBe_iff okr).2 fun m hm2 p hp2 => ?_⟩
 have h1:=hs m hm2 p hp2
 have h2:=froms_le oko hx (m:=m) (p:=p) (by omega) (by omega)
 omega
theorem perm_mem {r o:Run} (okr:Ok r) (oko:Ok o) (hm:o.machines=r.machines) (hp:o.plates=r.plates) (hF:o.found.length=r.found.length) (σ τ:Nat->Nat)
  (hτ:∀ i,i < r.found.length->τ i < r.found.length/\σ (τ i)=i) (hf:∀ i,i < r.found.length->fnd o i=fnd r (σ i)) {x:List Int} (hx:x ∈ fromsOf o) :
  ((List.range r.found.length).map fun j=>x.getD (τ j) 0) ∈ fromsOf r/\(∀ m,m < r.machines.length -> ∀ p:Nat,(p:Int) < r.plates->(spanOf r ((List.range r.found.length).map fun j=>x.getD (τ j) 0) m p).lo<=(spanOf o x m p).lo/\(spanOf o x m p).hi<=(spanOf r ((List.range r.found.length).map fun j=>x.getD (τ j) 0) m p).hi) ∧
  ∀ v,v ∈ ((List.range r.found.length).map fun j=>x.getD (τ j) 0)->v ∈ x:=by
 have hmach:∀ m,mach o m=mach r m:=fun m=>by unfold mach; rw [hm]
 obtain ⟨h1,h2⟩:=(mem_froms.1 hx).1
 have hspan:∀ m,m < r.machines.length -> ∀ p:Nat,(p:Int) < r.plates->(spanOf r ((List.range r.found.length).map fun j=>x.getD (τ j) 0) m p).lo<=(spanOf o x m p).lo/\(spanOf o x m p).hi<=(spanOf r ((List.range r.found.length).map fun j=>x.getD (τ j) 0) m p).hi:=by
  intro m _ p _
  refine span_sub (by rw [hmach]; exact ⟨Int.le_refl _,Int.le_refl _⟩) fun i hi e => ?_
  have hi2:i < r.found.length:=by simpa using hi
  rw [mapRange_get _ _ hi2] at e
  obtain ⟨t1,t2⟩:=hτ i hi2
  refine ⟨τ i,by omega,e,?_⟩
  rw [hf _ t1,t2]
  exact ⟨rfl,.inr rfl⟩
 refine ⟨froms_mem okr oko (by rw [hm]) hp hx ⟨by simp,fun i hi => ?_⟩ hspan,hspan,fun v hv => ?_⟩
 ·rw [mapRange_get _ _ hi]
  obtain ⟨t1,t2⟩:=hτ i hi
  have:=h2 (τ i) (by omega)
  rwa [hf _ t1,t2] at this
 ·obtain ⟨j,hj,rfl⟩:=List.mem_map.1 hv
  have:=(hτ j (List.mem_range.1 hj)).1
  exact Go.Ab.getD_mem _ 0 (by omega)
theorem perm_finer {r o:Run} (hr:One r) (ho:One o) (hm:o.machines=r.machines) (hp:o.plates=r.plates) (hF:o.found.length=r.found.length) (σ τ:Nat->Nat)
  (hτ:∀ i,i < r.found.length->τ i < r.found.length/\σ (τ i)=i) (hf:∀ i,i < r.found.length->fnd o i=fnd r (σ i)) :
  Finer o r (fun x=>(List.range r.found.length).map fun j=>x.getD (τ j) 0):=by
 have h:=fun x (hx:x ∈ fromsOf o)=>perm_mem hr.ok ho.ok hm hp hF σ τ hτ hf hx
 exact ⟨hr,ho,by rw [hm],hp,fun m _=>by unfold mach; rw [hm],fun x hx=>(h x hx).1,fun x hx=>(h x hx).2.1,fun x hx=>(h x hx).2.2⟩
def rotIdx (F a i:Nat):Nat:=(i + a) % F
def rotR (r:Run) (a:Nat):Run:=⟨r.plates,r.last,r.machines,(List.range r.found.length).map fun i=>fnd r (rotIdx r.found.length a i)⟩
theorem len_rot (r:Run) (a:Nat):(rotR r a).found.length=r.found.length:=by simp [rotR]
theorem fnd_rot (r:Run) (a:Nat) {i:Nat} (h:i < r.found.length):fnd (rotR r a) i=fnd r (rotIdx r.found.length a i):=mapRange_get _ _ h
def noWhr (x:Tld):Tld:=⟨x.when,x.old,[],x.mixed,x.mixes,x.fewest⟩
theorem rot_inv {F a i:Nat} (h:i < F):rotIdx F a i < F/\rotIdx F (F - a % F) (rotIdx F a i)=i/\rotIdx F a (rotIdx F (F - a % F) i)=i:=by
 have hp:0 < F:=by omega
 have ha:=Nat.mod_lt a hp
 unfold rotIdx
 have e1:(i + a) % F=(i + a % F) % F:=by rw [Nat.add_mod,Nat.mod_eq_of_lt h]
 refine ⟨Nat.mod_lt _ hp,?_,?_⟩
 ·rw [e1]
  by_cases c:i + a % F < F
  ·rw [Nat.mod_eq_of_lt c,show i + a % F + (F - a % F)=i + F by omega,Nat.add_mod_right,Nat.mod_eq_of_lt h]
  ·have:(i + a % F) % F=i + a % F - F:=by rw [Nat.mod_eq_sub_mod (by omega),Nat.mod_eq_of_lt (by omega)]
   rw [this,show i + a % F - F + (F - a % F)=i by omega,Nat.mod_eq_of_lt h]
 ·have e2:∀ x,(x + a) % F=(x + a % F) % F:=fun x=>by rw [Nat.add_mod,Nat.add_mod x (a % F),Nat.mod_mod]
  rw [e2]
  by_cases c:i + (F - a % F) < F
  ·rw [Nat.mod_eq_of_lt c,show i + (F - a % F) + a % F=i + F by omega,Nat.add_mod_right,Nat.mod_eq_of_lt h]
  ·have:(i + (F - a % F)) % F=i + (F - a % F) - F:=by rw [Nat.mod_eq_sub_mod (by omega),Nat.mod_eq_of_lt (by omega)]
   rw [this,show i + (F - a % F) - F + a % F=i by omega,Nat.mod_eq_of_lt h]
theorem rot_ok {r:Run} (h:okRun r=true) (a:Nat):okRun (rotR r a)=true:=by
 have h0:=h
 simp only [okRun,Bool.and_eq_true] at h
 refine okRun_of ?_ (fun j hj=>Go.Ab.idx_all default h.1.2 hj) (fun j hj => ?_)
 ·have h1:=h.1.1
  unfold okHead at h1 ⊢
  rw [len_rot]; exact h1
 ·rw [len_rot] at hj
  rw [fnd_rot r a hj]
  exact okFndA_at h0 (rot_inv hj).1
theorem rot_one {r:Run} (h:okRun r=true) (hr:One r) (a:Nat):One (rotR r a):=by
 obtain ⟨x,hx⟩:=one_ex hr
 have hl:=len_rot r a
 have hk:=rot_ok h a
 exact one_of hk (perm_mem (r:=rotR r a) (o:=r) (ok_of hk) hr.ok rfl rfl hl.symm (rotIdx r.found.length (r.found.length - a % r.found.length)) (rotIdx r.found.length a)
  (fun i hi=>by rw [hl] at hi ⊢; exact ⟨(rot_inv hi).1,(rot_inv hi).2.1⟩)
  (fun i hi=>by rw [hl] at hi; rw [fnd_rot r a (i:=rotIdx r.found.length (r.found.length - a % r.found.length) i) (Nat.mod_lt _ (by omega)),(rot_inv hi).2.2]) hx).1
theorem one_is {r:Run} (h:One r):isOne r=true:=by
 have:=h.pos
 simp only [isOne,decide_eq_true_eq]; omega
theorem rot_clear {r:Run} {a:Nat} (hr:One r) (ho:One (rotR r a)):Clear (noWhr (toldOf r)) (noWhr (toldOf (rotR r a)))/\Clear (noWhr (toldOf (rotR r a))) (noWhr (toldOf r)):=by
 have hl:=len_rot r a
 have e:∀ ho hr:List (List Int),ho = []->hr = []->(hr.length<=ho.length)/\ho.length<=65536 /\ ∀ i,i < hr.length->(∀ k,k < (ho.getD i []).length->isIn (hr.getD i []) ((ho.getD i []).getD k 0)=true)/\(ho.getD i []).length<=65536/\(hr.getD i []).length<=65536:=by
  rintro ho hr rfl rfl
  exact ⟨Nat.le_refl _,Nat.zero_le _,fun i hi=>absurd hi (Nat.not_lt_zero i)⟩
 obtain ⟨e1,e2,e3⟩:=e [] [] rfl rfl
 constructor
 ·have h:=perm_finer (r:=rotR r a) (o:=r) ho hr rfl rfl hl.symm (rotIdx r.found.length (r.found.length - a % r.found.length)) (rotIdx r.found.length a)
   (fun i hi=>by rw [hl] at hi ⊢; exact ⟨(rot_inv hi).1,(rot_inv hi).2.1⟩)
   (fun i hi=>by rw [hl] at hi; rw [fnd_rot r a (i:=rotIdx r.found.length (r.found.length - a % r.found.length) i) (Nat.mod_lt _ (by omega)),(rot_inv hi).2.2])
  exact finer_clear h [] [] e1 e2 e3
 ·have h:=perm_finer (r:=r) (o:=rotR r a) hr ho rfl rfl hl (rotIdx r.found.length a) (rotIdx r.found.length (r.found.length - a % r.found.length))
   (fun i hi=>⟨Nat.mod_lt _ (by omega),(rot_inv hi).2.2⟩)
   (fun i hi=>fnd_rot r a hi)
  exact finer_clear h [] [] e1 e2 e3
end Go.Sh
namespace Go.Sh
theorem chLen_over (r:Run):chLen r r.machines.length r.machines.length=(mach r r.machines.length).changes.length:=by
 rw [mach,Go.Ab.getD_ge _ _ (Nat.le_refl _),chLen,if_neg (Nat.lt_irrefl _)]; rfl
theorem nwLen_over (r:Run):nwLen r r.found.length r.found.length=(fnd r r.found.length).new.length:=by
 rw [fnd,Go.Ab.getD_ge _ _ (Nat.le_refl _),nwLen,if_neg (Nat.lt_irrefl _)]; rfl
theorem rec_eq {α:Type} {i j:Nat} {a:¬ i=j->α} {b:i=j->α} {c:α} (h1:∀ h,a h=c) (h2:∀ h,b h=c):(Decidable.rec a b (instDecidableEqNat i j):α)=c:=by
 cases instDecidableEqNat i j with
 | isTrue h=>exact h2 h
 | isFalse h=>exact h1 h
def end0 (s:Span):Int:=s.lo - 1
end Go.Sh
namespace Go.Ab
open Go Go.RowKit Go.Proofs Go.Sh Go.En
def h7 (r:Run) (m p:Int):Hint:={ X:=Int,M:=fun n=>[(12,iv n)],I:=fun n=>end0 (whenS r m p)<=n/\n<=(whenS r m p).hi + 2,mu:=fun n=>((whenS r m p).hi + 2 - n).toNat,x0:=end0 (whenS r m p),nx:=fun n=>n + 1 }
end Go.Ab
namespace Go.Ab
open Go Go.RowKit Go.Proofs Go.Sh Go.En
end Go.Ab
namespace Go.Sh
theorem or3 {a b c:Bool} (h:(bif bif a then true else b then true else c)=false):a=false/\b=false/\c=false:=by cases a <;> cases b <;> cases c <;> simp_all
theorem known_ok {r:Run} (h:(!known6 r)=false):known6 r=true/\okRun r=true/\One r:=by
 have h1:known6 r=true:=by simpa using h
 refine ⟨h1,?_,one_known h1⟩
 simp only [known6,Bool.and_eq_true] at h1
 exact ready_ok h1.1
theorem small_known {r:Run} (h:known6 r=true) (hf:fits r):small r:=by
 simp only [known6,ready,Bool.and_eq_true,Bool.not_eq_true'] at h
 exact far_small h.1.1 hf
theorem rot_int {a:Int} (ha:0<=a) (i F:Nat):(((i:Int) + a) % (F:Int)).toNat=rotIdx F a.toNat i:=by
 unfold rotIdx
 have:(i:Int) + a=((i + a.toNat:Nat):Int):=by omega
 rw [this,← Int.natCast_emod,Int.toNat_natCast]
def rfnd (r:Run) (a i k:Nat):Fnd:=if k < i then fnd r (rotIdx r.found.length a k) else fnd r k
end Go.Sh
namespace Go.Ab
open Go Go.RowKit Go.Proofs Go.Sh Go.En
def s11 (r:Run) (a:Int):CallSpec:={ args:=[vRun r,iv a],res:=bv true,pre:=fits r }
def c11 (r:Run) (a:Int) (id:Nat):CallSpec:=s20o r r.machines.length r.found.length id
def h11 (r:Run) (a:Int):Hint:={ X:=Nat,M:=fun i=>[(6,iv i),(5,.ptr 5000 [])],H:=fun i=>[(5000,.cells 25 [iv r.plates,iv r.last,.vec 5001,.vec 5002]),(5001,.vec 42 2 r.machines.length (fun k=>cMach (mach r k))),(5002,.vec 32 3 r.found.length (fun k=>cFnd (rfnd r a.toNat i k)))],I:=fun i=>i<=r.found.length,mu:=fun i=>r.found.length - i,x0:=(0:Nat),nx:=fun i=>i + 1 }
end Go.Ab
namespace Go.Ab
open Go Go.RowKit Go.Proofs Go.Sh Go.En
abbrev q11_1 (r:Run) (a:Int) (C:Prop):Prop:=fits r->(bif bif !known6 r then true else decide (a < 0) then true else decide (100 < a))=false->C
abbrev q11_2 (r:Run) (a:Int) (C:Nat->Prop):Prop:=q11_1 r a (∀ (x14:Nat),x14<=r.found.length->decide ((x14:Int) < (↑(r.found.length):Int))=true->C x14)
abbrev q11_3 (r:Run) (a:Int) (C:Nat->Prop):Prop:=q11_1 r a (∀ (x14:Nat),x14<=r.found.length->decide ((x14:Int) < (↑(r.found.length):Int))=false->C x14)
theorem w11 (r:Run) (a:Int)
 (o0:fits r->(!known6 r)=false->(!!known6 r)=true)
 (o1:fits r->(bif !known6 r then true else decide (a < 0))=false->(!bif !known6 r then true else decide (a < 0))=true)
 (o2:q11_1 r a (small r))
 (o3:q11_1 r a (0=(↑0:Int)))
 (o4:q11_1 r a (chLen r r.machines.length r.machines.length=(mach r r.machines.length).changes.length))
 (o5:q11_1 r a (∀ (i18:Nat),i18 < (mach r r.machines.length).changes.length->cSpan (chg (mach r r.machines.length) i18) = [iv ((mach r r.machines.length).changes.getD i18 default).lo,iv ((mach r r.machines.length).changes.getD i18 default).hi]))
 (o6:q11_1 r a (∀ (i20:Nat),i20 < r.found.length->i20 ≠ r.found.length->cFnd (fnd r i20)=cFnd (rfnd r a.toNat 0 i20)))
 (o7:q11_1 r a ((fnd r r.found.length).minute=(rfnd r a.toNat 0 r.found.length).minute))
 (o8:q11_1 r a (nwLen r r.found.length r.found.length=(rfnd r a.toNat 0 r.found.length).new.length))
 (o9:q11_1 r a (∀ (i23:Nat),i23 < (rfnd r a.toNat 0 r.found.length).new.length -> [iv ((fnd r r.found.length).new.getD i23 0)] = [iv ((rfnd r a.toNat 0 r.found.length).new.getD i23 0)]))
 (o10:q11_1 r a ((fnd r r.found.length).frm.length=(rfnd r a.toNat 0 r.found.length).frm.length))
 (o11:q11_1 r a (∀ (i25:Nat),i25 < (rfnd r a.toNat 0 r.found.length).frm.length -> [iv ((fnd r r.found.length).frm.getD i25 0)] = [iv ((rfnd r a.toNat 0 r.found.length).frm.getD i25 0)]))
 (o12:q11_1 r a (0<=r.found.length))
 (o13:q11_2 r a fun x14=>small r)
 (o14:q11_2 r a fun x14=>inI ((x14:Int) + a))
 (o15:q11_2 r a fun x14=>0<=(x14:Int) + a)
 (o16:q11_2 r a fun x14=>0 < (↑(r.found.length):Int))
 (o17:q11_2 r a fun x14=>0<=((x14:Int) + a) % (↑(r.found.length):Int))
 (o18:q11_2 r a fun x14=>((x14:Int) + a) % (↑(r.found.length):Int) < (↑(r.found.length):Int))
 (o19:q11_2 r a fun x14=>0<=(x14:Int))
 (o20:q11_2 r a fun x14=>(x14:Int) < (↑(r.found.length):Int))
 (o21:q11_2 r a fun x14=>x14 < r.found.length)
 (o22:q11_2 r a fun x14=>inI ((x14:Int) + 1))
 (o23:q11_2 r a fun x14=>(x14:Int) + 1=(↑(x14 + 1):Int))
 (o24:q11_2 r a fun x14 => ∀ (i29:Nat),i29 < r.found.length->Decidable.rec (fun (h:¬i29=x14)=>cFnd (rfnd r a.toNat x14 i29)) (fun (h:i29=x14)=>[iv (fnd r (((x14:Int) + a) % (↑(r.found.length):Int)).toNat).minute,AV.sl 1 (fnd r (((x14:Int) + a) % (↑(r.found.length):Int)).toNat).new.length fun (i:Nat)=>[iv ((fnd r (((x14:Int) + a) % (↑(r.found.length):Int)).toNat).new.getD i 0)],AV.sl 1 (fnd r (((x14:Int) + a) % (↑(r.found.length):Int)).toNat).frm.length fun (i:Nat)=>[iv ((fnd r (((x14:Int) + a) % (↑(r.found.length):Int)).toNat).frm.getD i 0)]] ++ []) (instDecidableEqNat i29 x14)=cFnd (rfnd r a.toNat (x14 + 1) i29))
 (o25:q11_2 r a fun x14=>x14 + 1<=r.found.length)
 (o26:q11_2 r a fun x14=>r.found.length - (x14 + 1) < r.found.length - x14)
 (o27:q11_3 r a fun x14=>r.plates=(rotR r a.toNat).plates)
 (o28:q11_3 r a fun x14=>r.last=(rotR r a.toNat).last)
 (o29:q11_3 r a fun x14=>r.machines.length=(rotR r a.toNat).machines.length)
 (o30:q11_3 r a fun x14 => ∀ (i31:Nat),i31 < (rotR r a.toNat).machines.length->cMach (mach r i31)=cMach (mach (rotR r a.toNat) i31))
 (o31:q11_3 r a fun x14=>r.found.length=(rotR r a.toNat).found.length)
 (o32:q11_3 r a fun x14 => ∀ (i33:Nat),i33 < (rotR r a.toNat).found.length->cFnd (rfnd r a.toNat x14 i33)=cFnd (fnd (rotR r a.toNat) i33))
 (o33:q11_3 r a fun x14=>okRun r=true)
 (o34:q11_3 r a fun x14=>isOne r=true)
 (o35:q11_3 r a fun x14=>fits (rotR r a.toNat))
 (o36:q11_3 r a fun x14=>okRun (rotR r a.toNat)=true)
 (o37:q11_3 r a fun x14=>isOne (rotR r a.toNat)=true)
 (o38:q11_3 r a fun x14=>(Tld.when (toldOf r)).length=(Tld.when (noWhr (toldOf r))).length)
 (o39:q11_3 r a fun x14 => ∀ (i42:Nat),i42 < (Tld.when (noWhr (toldOf r))).length -> [iv ((Tld.when (toldOf r)).getD i42 default).lo,iv ((Tld.when (toldOf r)).getD i42 default).hi] = [iv ((Tld.when (noWhr (toldOf r))).getD i42 default).lo,iv ((Tld.when (noWhr (toldOf r))).getD i42 default).hi])
 (o40:q11_3 r a fun x14=>(Tld.old (toldOf r)).length=(Tld.old (noWhr (toldOf r))).length)
 (o41:q11_3 r a fun x14 => ∀ (i44:Nat),i44 < (Tld.old (noWhr (toldOf r))).length -> [iv ((Tld.old (toldOf r)).getD i44 default).lo,iv ((Tld.old (toldOf r)).getD i44 default).hi] = [iv ((Tld.old (noWhr (toldOf r))).getD i44 default).lo,iv ((Tld.old (noWhr (toldOf r))).getD i44 default).hi])
 (o42:q11_3 r a fun x14=>(Tld.whr (noWhr (toldOf r))).length=0)
 (o43:q11_3 r a fun x14=>(Tld.mixed (toldOf r)).length=(Tld.mixed (noWhr (toldOf r))).length)
 (o44:q11_3 r a fun x14 => ∀ (i46:Nat),i46 < (Tld.mixed (noWhr (toldOf r))).length -> [iv ((Tld.mixed (toldOf r)).getD i46 0)] = [iv ((Tld.mixed (noWhr (toldOf r))).getD i46 0)])
 (o45:q11_3 r a fun x14=>(Tld.mixes (toldOf r)).lo=(Tld.mixes (noWhr (toldOf r))).lo)
 (o46:q11_3 r a fun x14=>(Tld.mixes (toldOf r)).hi=(Tld.mixes (noWhr (toldOf r))).hi)
 (o47:q11_3 r a fun x14=>Tld.fewest (toldOf r)=Tld.fewest (noWhr (toldOf r)))
 (o48:q11_3 r a fun x14=>(Tld.when (toldOf (rotR r a.toNat))).length=(Tld.when (noWhr (toldOf (rotR r a.toNat)))).length)
 (o49:q11_3 r a fun x14 => ∀ (i48:Nat),i48 < (Tld.when (noWhr (toldOf (rotR r a.toNat)))).length -> [iv ((Tld.when (toldOf (rotR r a.toNat))).getD i48 default).lo,iv ((Tld.when (toldOf (rotR r a.toNat))).getD i48 default).hi] = [iv ((Tld.when (noWhr (toldOf (rotR r a.toNat)))).getD i48 default).lo,iv ((Tld.when (noWhr (toldOf (rotR r a.toNat)))).getD i48 default).hi])
 (o50:q11_3 r a fun x14=>(Tld.old (toldOf (rotR r a.toNat))).length=(Tld.old (noWhr (toldOf (rotR r a.toNat)))).length)
 (o51:q11_3 r a fun x14 => ∀ (i50:Nat),i50 < (Tld.old (noWhr (toldOf (rotR r a.toNat)))).length -> [iv ((Tld.old (toldOf (rotR r a.toNat))).getD i50 default).lo,iv ((Tld.old (toldOf (rotR r a.toNat))).getD i50 default).hi] = [iv ((Tld.old (noWhr (toldOf (rotR r a.toNat)))).getD i50 default).lo,iv ((Tld.old (noWhr (toldOf (rotR r a.toNat)))).getD i50 default).hi])
 (o52:q11_3 r a fun x14=>(Tld.whr (noWhr (toldOf (rotR r a.toNat)))).length=0)
 (o53:q11_3 r a fun x14=>(Tld.mixed (toldOf (rotR r a.toNat))).length=(Tld.mixed (noWhr (toldOf (rotR r a.toNat)))).length)
 (o54:q11_3 r a fun x14 => ∀ (i52:Nat),i52 < (Tld.mixed (noWhr (toldOf (rotR r a.toNat)))).length -> [iv ((Tld.mixed (toldOf (rotR r a.toNat))).getD i52 0)] = [iv ((Tld.mixed (noWhr (toldOf (rotR r a.toNat)))).getD i52 0)])
 (o55:q11_3 r a fun x14=>(Tld.mixes (toldOf (rotR r a.toNat))).lo=(Tld.mixes (noWhr (toldOf (rotR r a.toNat)))).lo)
 (o56:q11_3 r a fun x14=>(Tld.mixes (toldOf (rotR r a.toNat))).hi=(Tld.mixes (noWhr (toldOf (rotR r a.toNat)))).hi)
 (o57:q11_3 r a fun x14=>Tld.fewest (toldOf (rotR r a.toNat))=Tld.fewest (noWhr (toldOf (rotR r a.toNat))))
 (o58:q11_3 r a fun x14=>Clear (noWhr (toldOf r)) (noWhr (toldOf (rotR r a.toNat))))
 (o59:q11_3 r a fun x14=>true=true->Clear (noWhr (toldOf (rotR r a.toNat))) (noWhr (toldOf r))) :
  Triple Try.prog 11 (s11 r a):=by
 refine triple_of Try.func11 rfl Try.call11 T0_ok _ rfl rfl rfl rfl (Nat.le_of_ble_eq_true (by kernel_rfl)) (fun _ _ _ _ h=>h) ?_
 intro hp C hC _ hE
 obtain ⟨P,w0,E0,av,hA⟩:=C
 subst hC
 refine swp_seq ?_
 refine sR (kt:=[1,2]) (kh:=[0]) (q:=True/\True/\True) (st':=ASt.mk [(1,iv a),(2,.ptr 0 [])] [(0,.cells 25 (cRun r))] 16) (by kernel_rfl) ⟨tv,tv,tv⟩ ?_
 refine swp_seq (swp_seq ?_)
 refine swp_region T0_ok mixed (cs:=[(1,CallSpec.eq (s21 r) [true])]) (kt:=[1,2,21]) (kh:=[0]) (q:=True/\((AV.agg (cRun r)=AV.agg (cRun r)/\True)/\Triple Try.prog 21 (s21 r)/\fits r/\True /\ ∀ (i0:Env),True)/\True/\True/\((!!known6 r)=true->(True/\True)/\True)/\((!!known6 r)=true->(((!!known6 r)=true->(!!known6 r)=true)/\True/\True)/\True)/\(((!known6 r)=true->True)/\((!known6 r)=false->(!!known6 r)=true))/\True/\((!bif !known6 r then true else decide (a < 0))=true->(True/\True)/\True)/\((!bif !known6 r then true else decide (a < 0))=true->(((!bif !known6 r then true else decide (a < 0))=true->(!bif !known6 r then true else decide (a < 0))=true)/\True/\True)/\True)/\(((bif !known6 r then true else decide (a < 0))=true->True)/\((bif !known6 r then true else decide (a < 0))=false->(!bif !known6 r then true else decide (a < 0))=true))/\True) (st':=ASt.mk [(1,iv a),(2,.ptr 0 []),(21,bv (bif bif !known6 r then true else decide (a < 0) then true else decide (100 < a)))] [(0,.cells 25 (cRun r))] 104) (by kernel_rfl) ⟨tv,⟨⟨rfl,tv⟩,(t21 (r)),hp,tv,(fun i0=>tv)⟩,tv,tv,(fun h1=>⟨⟨tv,tv⟩,tv⟩),(fun h2=>⟨⟨(fun h3=>h2),tv,tv⟩,tv⟩),⟨(fun h4=>tv),(fun h5=>(o0 hp h5))⟩,tv,(fun h6=>⟨⟨tv,tv⟩,tv⟩),(fun h7=>⟨⟨(fun h8=>h7),tv,tv⟩,tv⟩),⟨(fun h9=>tv),(fun h10=>(o1 hp h10))⟩,tv⟩ ?_
 refine swp_cond (bif bif !known6 r then true else decide (a < 0) then true else decide (100 < a)) (by kernel_rfl) (fun h11 => ?_) (fun h11 => ?_)
 ·refine swp_seq ?_
  refine swp_region T0_ok mixed (cs:=[(0,CallSpec.eq s19 [])]) (kt:=[4]) (kh:=[]) (q:=(True/\Triple Try.prog 19 s19/\True/\True /\ ∀ (i12:Env),True)/\True/\True) (st':=ASt.mk [(4,bv true)] [] 120) (by kernel_rfl) ⟨⟨tv,(t19),tv,tv,(fun i12=>tv)⟩,tv,tv⟩ ?_
  refine swp_ret ?_
  exact ret_q [] ((True/\True)/\(bv true=bv true/\nilN = [])/\T3) (by kernel_rfl) ⟨⟨tv,tv⟩,⟨rfl,rfl⟩,rfl,rfl,rfl⟩
 ·refine swp_skip (swp_seq ?_)
  refine swp_region T0_ok mixed (cs:=[(1,CallSpec.eq (c11 r a 112) [true])]) (kt:=[1,2,5]) (kh:=[0,120,112,113,115,114]) (q:=True/\((AV.agg (cRun r)=AV.agg (cRun r)/\True)/\Triple Try.prog 20 (c11 r a 112)/\small r/\True /\ ∀ (i13:Env),True)/\True/\True/\True) (st':=ASt.mk [(1,iv a),(2,.ptr 0 []),(5,.ptr 120 [])] [(0,.cells 25 (cRun r)),(120,.cells 25 [iv r.plates,iv r.last,.vec 112,.vec 113]),(112,.vecx 42 2 r.machines.length (fun (k:Nat)=>cMach (mach r k)) r.machines.length [.vec 114,iv (mach r r.machines.length).rate]),(113,.vecx 32 3 r.found.length (fun (k:Nat)=>cFnd (fnd r k)) r.found.length [iv (fnd r r.found.length).minute,.vec 115,.sl 1 (fnd r r.found.length).frm.length fun (i:Nat)=>[iv ((fnd r r.found.length).frm.getD i 0)]]),(115,.vec 3 1 (nwLen r r.found.length r.found.length) fun (p:Nat)=>[iv ((fnd r r.found.length).new.getD p 0)]),(114,.vec 37 2 (chLen r r.machines.length r.machines.length) fun (p:Nat)=>cSpan (chg (mach r r.machines.length) p))] 136) (by kernel_rfl) ⟨tv,⟨⟨rfl,tv⟩,(t20o (r) r.machines.length r.found.length (112)),(o2 hp h11),tv,(fun i13=>tv)⟩,tv,tv,tv⟩ ?_
  refine swp_seq (swp_seq ?_)
  refine sR (kt:=[1,2,5,6]) (kh:=[0,120,112,113,114,115]) (q:=True/\True) (st':=ASt.mk [(1,iv a),(2,.ptr 0 []),(5,.ptr 120 []),(6,iv 0)] [(0,.cells 25 (cRun r)),(120,.cells 25 [iv r.plates,iv r.last,.vec 112,.vec 113]),(112,.vecx 42 2 r.machines.length (fun (k:Nat)=>cMach (mach r k)) r.machines.length [.vec 114,iv (mach r r.machines.length).rate]),(113,.vecx 32 3 r.found.length (fun (k:Nat)=>cFnd (fnd r k)) r.found.length [iv (fnd r r.found.length).minute,.vec 115,.sl 1 (fnd r r.found.length).frm.length fun (i:Nat)=>[iv ((fnd r r.found.length).frm.getD i 0)]]),(114,.vec 37 2 (chLen r r.machines.length r.machines.length) fun (p:Nat)=>cSpan (chg (mach r r.machines.length) p)),(115,.vec 3 1 (nwLen r r.found.length r.found.length) fun (p:Nat)=>[iv ((fnd r r.found.length).new.getD p 0)])] 144) (by kernel_rfl) ⟨tv,tv⟩ ?_
  refine swp_block ?_
  refine swp_loopA (Hint.ann (Ab.h11 r a) [(1,iv a),(2,AV.ptr 0 [])] [(0,OB.cells 25 (cRun r))] 10144) (ent_q hE [114,115] [(0,.same 0),(5000,.same 120),(5001,.same 112),(5002,.same 113)] [1] [0] (((iv a=iv a/\true=true)/\(some (Src.same 0)=some (Src.same 0)/\nilP = [])/\(iv 0=iv (↑0:Int)/\nilN = [])/\(some (Src.same 120)=some (Src.same 120)/\nilP = [])/\True)/\((OB.cells 25 (cRun r)=OB.cells 25 (cRun r)/\true=true)/\(25=25/\((iv r.plates=iv r.plates/\nilN = [])/\(iv r.last=iv r.last/\nilN = [])/\some (Src.same 112)=some (Src.same 112)/\some (Src.same 113)=some (Src.same 113)/\True)/\true=true)/\(42=42/\2=2/\r.machines.length=r.machines.length/\(∀ (i15:Nat),i15 < r.machines.length->i15 ≠ r.machines.length->cMach (mach r i15)=cMach (mach r i15))/\((2=2/\chLen r r.machines.length r.machines.length=(mach r r.machines.length).changes.length /\ ∀ (i18:Nat),i18 < (mach r r.machines.length).changes.length->cSpan (chg (mach r r.machines.length) i18) = [iv ((mach r r.machines.length).changes.getD i18 default).lo,iv ((mach r r.machines.length).changes.getD i18 default).hi])/\(iv (mach r r.machines.length).rate=iv (mach r r.machines.length).rate/\nilN = [])/\True)/\T2)/\(32=32/\3=3/\r.found.length=r.found.length/\(∀ (i20:Nat),i20 < r.found.length->i20 ≠ r.found.length->cFnd (fnd r i20)=cFnd (rfnd r a.toNat 0 i20))/\((iv (fnd r r.found.length).minute=iv (rfnd r a.toNat 0 r.found.length).minute/\nilN = [])/\(1=1/\nwLen r r.found.length r.found.length=(rfnd r a.toNat 0 r.found.length).new.length /\ ∀ (i23:Nat),i23 < (rfnd r a.toNat 0 r.found.length).new.length -> [iv ((fnd r r.found.length).new.getD i23 0)] = [iv ((rfnd r a.toNat 0 r.found.length).new.getD i23 0)])/\(1=1/\(fnd r r.found.length).frm.length=(rfnd r a.toNat 0 r.found.length).frm.length /\ ∀ (i25:Nat),i25 < (rfnd r a.toNat 0 r.found.length).frm.length -> [iv ((fnd r r.found.length).frm.getD i25 0)] = [iv ((rfnd r a.toNat 0 r.found.length).frm.getD i25 0)])/\True)/\T2)/\True)/\T2) (by kernel_rfl) (by kernel_rfl) ⟨⟨⟨rfl,rfl⟩,⟨rfl,rfl⟩,⟨(congrArg iv (o3 hp h11)),rfl⟩,⟨rfl,rfl⟩,tv⟩,⟨⟨rfl,rfl⟩,⟨rfl,⟨⟨rfl,rfl⟩,⟨rfl,rfl⟩,rfl,rfl,tv⟩,rfl⟩,⟨rfl,rfl,rfl,(fun i15=>(fun h16=>(fun h17=>rfl))),⟨⟨rfl,(o4 hp h11),(fun i18=>(fun h19=>(o5 hp h11 i18 h19)))⟩,⟨rfl,rfl⟩,tv⟩,rfl,rfl⟩,⟨rfl,rfl,rfl,(fun i20=>(fun h21=>(fun h22=>(o6 hp h11 i20 h21 h22)))),⟨⟨(congrArg iv (o7 hp h11)),rfl⟩,⟨rfl,(o8 hp h11),(fun i23=>(fun h24=>(o9 hp h11 i23 h24)))⟩,⟨rfl,(o10 hp h11),(fun i25=>(fun h26=>(o11 hp h11 i25 h26)))⟩,tv⟩,rfl,rfl⟩,tv⟩,rfl,rfl⟩) (o12 hp h11) (fun (x14:Nat) hx14 => ?_)
  refine swp_seq (swp_seq ?_)
  refine sR (kt:=[1,2,6,5,29]) (kh:=[0,5000,5001,5002]) (q:=True/\True/\True/\True/\True/\True) (st':=ASt.mk [(1,iv a),(2,.ptr 0 []),(6,iv (x14:Int)),(5,.ptr 5000 []),(29,bv (decide ((x14:Int) < (↑(r.found.length):Int))))] [(0,.cells 25 (cRun r)),(5000,.cells 25 [iv r.plates,iv r.last,.vec 5001,.vec 5002]),(5001,.vec 42 2 r.machines.length fun (k:Nat)=>cMach (mach r k)),(5002,.vec 32 3 r.found.length fun (k:Nat)=>cFnd (rfnd r a.toNat x14 k))] 10184) (by kernel_rfl) ⟨tv,tv,tv,tv,tv,tv⟩ ?_
  refine swp_cond (decide ((x14:Int) < (↑(r.found.length):Int))) (by kernel_rfl) (fun h27 => ?_) (fun h27 => ?_)
  ·refine swp_skip (swp_seq (swp_block ?_))
   refine swp_region T0_ok mixed (cs:=[(4,CallSpec.eq (s20 r) [true])]) (kt:=[1,2,6,5]) (kh:=[0,5000,5001,5002]) (q:=True/\True/\True/\True/\((AV.agg (cRun r)=AV.agg (cRun r)/\True)/\Triple Try.prog 20 (s20 r)/\small r/\True /\ ∀ (i28:Env),True)/\True/\True/\True/\inI ((x14:Int) + a)/\True/\True/\True/\(0<=(x14:Int) + a/\0 < (↑(r.found.length):Int))/\(0<=((x14:Int) + a) % (↑(r.found.length):Int)/\((x14:Int) + a) % (↑(r.found.length):Int) < (↑(r.found.length):Int))/\True/\(0<=(x14:Int)/\(x14:Int) < (↑(r.found.length):Int))/\(x14 < r.found.length/\True)/\True) (st':=ASt.mk [(1,iv a),(2,.ptr 0 []),(6,iv (x14:Int)),(5,.ptr 5000 [])] [(0,.cells 25 (cRun r)),(5000,.cells 25 [iv r.plates,iv r.last,.vec 5001,.vec 5002]),(5001,.vec 42 2 r.machines.length fun (k:Nat)=>cMach (mach r k)),(5002,.vec 32 3 r.found.length fun (j:Nat)=>Decidable.rec (fun (h:¬j=x14)=>cFnd (rfnd r a.toNat x14 j)) (fun (h:j=x14)=>[iv (fnd r (((x14:Int) + a) % (↑(r.found.length):Int)).toNat).minute,.sl 1 (fnd r (((x14:Int) + a) % (↑(r.found.length):Int)).toNat).new.length fun (i:Nat)=>[iv ((fnd r (((x14:Int) + a) % (↑(r.found.length):Int)).toNat).new.getD i 0)],.sl 1 (fnd r (((x14:Int) + a) % (↑(r.found.length):Int)).toNat).frm.length fun (i:Nat)=>[iv ((fnd r (((x14:Int) + a) % (↑(r.found.length):Int)).toNat).frm.getD i 0)]] ++ []) (instDecidableEqNat j x14))] 10320) (by kernel_rfl) ⟨tv,tv,tv,tv,⟨⟨rfl,tv⟩,(t20 (r)),(o13 hp h11 x14 hx14 h27),tv,(fun i28=>tv)⟩,tv,tv,tv,(o14 hp h11 x14 hx14 h27),tv,tv,tv,⟨(o15 hp h11 x14 hx14 h27),(o16 hp h11 x14 hx14 h27)⟩,⟨(o17 hp h11 x14 hx14 h27),(o18 hp h11 x14 hx14 h27)⟩,tv,⟨(o19 hp h11 x14 hx14 h27),(o20 hp h11 x14 hx14 h27)⟩,⟨(o21 hp h11 x14 hx14 h27),tv⟩,tv⟩ ?_
   refine sR (kt:=[1,2,6,5]) (kh:=[0,5000,5001,5002]) (q:=True/\inI ((x14:Int) + 1)/\True/\True) (st':=ASt.mk [(1,iv a),(2,.ptr 0 []),(6,iv ((x14:Int) + 1)),(5,.ptr 5000 [])] [(0,.cells 25 (cRun r)),(5000,.cells 25 [iv r.plates,iv r.last,.vec 5001,.vec 5002]),(5001,.vec 42 2 r.machines.length fun (k:Nat)=>cMach (mach r k)),(5002,.vec 32 3 r.found.length fun (j:Nat)=>Decidable.rec (fun (h:¬j=x14)=>cFnd (rfnd r a.toNat x14 j)) (fun (h:j=x14)=>[iv (fnd r (((x14:Int) + a) % (↑(r.found.length):Int)).toNat).minute,.sl 1 (fnd r (((x14:Int) + a) % (↑(r.found.length):Int)).toNat).new.length fun (i:Nat)=>[iv ((fnd r (((x14:Int) + a) % (↑(r.found.length):Int)).toNat).new.getD i 0)],.sl 1 (fnd r (((x14:Int) + a) % (↑(r.found.length):Int)).toNat).frm.length fun (i:Nat)=>[iv ((fnd r (((x14:Int) + a) % (↑(r.found.length):Int)).toNat).frm.getD i 0)]] ++ []) (instDecidableEqNat j x14))] 10344) (by kernel_rfl) ⟨tv,(o22 hp h11 x14 hx14 h27),tv,tv⟩ ?_
   exact loop_next (Hint.ann (Ab.h11 r a) [(1,iv a),(2,AV.ptr 0 [])] [(0,OB.cells 25 (cRun r))] 10144) x14 (ent_q hE [] [(0,.same 0),(5000,.same 5000),(5001,.same 5001),(5002,.same 5002)] [1] [0,5001] (((iv a=iv a/\true=true)/\(some (Src.same 0)=some (Src.same 0)/\nilP = [])/\(iv ((x14:Int) + 1)=iv (↑(x14 + 1):Int)/\nilN = [])/\(some (Src.same 5000)=some (Src.same 5000)/\nilP = [])/\True)/\((OB.cells 25 (cRun r)=OB.cells 25 (cRun r)/\true=true)/\(25=25/\((iv r.plates=iv r.plates/\nilN = [])/\(iv r.last=iv r.last/\nilN = [])/\some (Src.same 5001)=some (Src.same 5001)/\some (Src.same 5002)=some (Src.same 5002)/\True)/\true=true)/\(((OB.vec 42 2 r.machines.length fun (k:Nat)=>cMach (mach r k))=OB.vec 42 2 r.machines.length fun (k:Nat)=>cMach (mach r k))/\true=true)/\(32=32/\3=3/\r.found.length=r.found.length /\ ∀ (i29:Nat),i29 < r.found.length->Decidable.rec (fun (h:¬i29=x14)=>cFnd (rfnd r a.toNat x14 i29)) (fun (h:i29=x14)=>[iv (fnd r (((x14:Int) + a) % (↑(r.found.length):Int)).toNat).minute,AV.sl 1 (fnd r (((x14:Int) + a) % (↑(r.found.length):Int)).toNat).new.length fun (i:Nat)=>[iv ((fnd r (((x14:Int) + a) % (↑(r.found.length):Int)).toNat).new.getD i 0)],AV.sl 1 (fnd r (((x14:Int) + a) % (↑(r.found.length):Int)).toNat).frm.length fun (i:Nat)=>[iv ((fnd r (((x14:Int) + a) % (↑(r.found.length):Int)).toNat).frm.getD i 0)]] ++ []) (instDecidableEqNat i29 x14)=cFnd (rfnd r a.toNat (x14 + 1) i29))/\True)/\T2) (by kernel_rfl) (by kernel_rfl) ⟨⟨⟨rfl,rfl⟩,⟨rfl,rfl⟩,⟨(congrArg iv (o23 hp h11 x14 hx14 h27)),rfl⟩,⟨rfl,rfl⟩,tv⟩,⟨⟨rfl,rfl⟩,⟨rfl,⟨⟨rfl,rfl⟩,⟨rfl,rfl⟩,rfl,rfl,tv⟩,rfl⟩,⟨rfl,rfl⟩,⟨rfl,rfl,rfl,(fun i29=>(fun h30=>(o24 hp h11 x14 hx14 h27 i29 h30)))⟩,tv⟩,rfl,rfl⟩) (o25 hp h11 x14 hx14 h27) (o26 hp h11 x14 hx14 h27)
  ·refine swp_exit (swp_seq ?_)
   refine swp_ent (ent_q (st2:=ASt.mk [(1,iv a),(2,AV.ptr 0 []),(6,iv (x14:Int)),(5,AV.ptr 5000 []),(29,bv (decide ((x14:Int) < (↑(r.found.length):Int))))] [(5000,OB.cells 25 (cRun (rotR r a.toNat))),(0,OB.cells 25 (cRun r))] 10184) hE [5001,5002] [(0,.same 0),(5000,.same 5000)] [1,6,29] [0] (((iv a=iv a/\true=true)/\(some (Src.same 0)=some (Src.same 0)/\nilP = [])/\(iv (x14:Int)=iv (x14:Int)/\true=true)/\(some (Src.same 5000)=some (Src.same 5000)/\nilP = [])/\(bv (decide ((x14:Int) < (↑(r.found.length):Int)))=bv (decide ((x14:Int) < (↑(r.found.length):Int)))/\true=true)/\True)/\((25=25/\((iv r.plates=iv (rotR r a.toNat).plates/\nilN = [])/\(iv r.last=iv (rotR r a.toNat).last/\nilN = [])/\(2=2/\r.machines.length=(rotR r a.toNat).machines.length /\ ∀ (i31:Nat),i31 < (rotR r a.toNat).machines.length->cMach (mach r i31)=cMach (mach (rotR r a.toNat) i31))/\(3=3/\r.found.length=(rotR r a.toNat).found.length /\ ∀ (i33:Nat),i33 < (rotR r a.toNat).found.length->cFnd (rfnd r a.toNat x14 i33)=cFnd (fnd (rotR r a.toNat) i33))/\True)/\true=true)/\(OB.cells 25 (cRun r)=OB.cells 25 (cRun r)/\true=true)/\True)/\T2) (by kernel_rfl) (by kernel_rfl) ⟨⟨⟨rfl,rfl⟩,⟨rfl,rfl⟩,⟨rfl,rfl⟩,⟨rfl,rfl⟩,⟨rfl,rfl⟩,tv⟩,⟨⟨rfl,⟨⟨(congrArg iv (o27 hp h11 x14 hx14 h27)),rfl⟩,⟨(congrArg iv (o28 hp h11 x14 hx14 h27)),rfl⟩,⟨rfl,(o29 hp h11 x14 hx14 h27),(fun i31=>(fun h32=>(o30 hp h11 x14 hx14 h27 i31 h32)))⟩,⟨rfl,(o31 hp h11 x14 hx14 h27),(fun i33=>(fun h34=>(o32 hp h11 x14 hx14 h27 i33 h34)))⟩,tv⟩,rfl⟩,⟨rfl,rfl⟩,tv⟩,rfl,rfl⟩) ?_
   refine swp_region T0_ok mixed (cs:=[(1,CallSpec.eq (s47 r) [true])]) (kt:=[5,7,8]) (kh:=[5000,10224]) (q:=True/\((AV.agg (cRun r)=AV.agg (cRun r)/\True)/\Triple Try.prog 47 (s47 r)/\(fits r/\okRun r=true/\isOne r=true)/\True /\ ∀ (i35:Env),True)/\True/\True/\True/\True/\True/\True/\True) (st':=ASt.mk [(5,.ptr 5000 []),(7,.ptr 10224 []),(8,bv true)] [(5000,.cells 25 (cRun (rotR r a.toNat))),(10224,.cells 62 (cTld (toldOf r)))] 10248) (by kernel_rfl) ⟨tv,⟨⟨rfl,tv⟩,(t47 (r)),⟨hp,(o33 hp h11 x14 hx14 h27),(o34 hp h11 x14 hx14 h27)⟩,tv,(fun i35=>tv)⟩,tv,tv,tv,tv,tv,tv,tv⟩ ?_
   refine swp_seq ?_
   refine swp_region T0_ok mixed (cs:=[(1,CallSpec.eq (s47 (rotR r a.toNat)) [true])]) (kt:=[7,8,9,10]) (kh:=[10224,10288]) (q:=True/\((AV.agg (cRun (rotR r a.toNat))=AV.agg (cRun (rotR r a.toNat))/\True)/\Triple Try.prog 47 (s47 (rotR r a.toNat))/\(fits (rotR r a.toNat)/\okRun (rotR r a.toNat)=true/\isOne (rotR r a.toNat)=true)/\True /\ ∀ (i36:Env),True)/\True/\True/\True/\True/\True/\True/\True) (st':=ASt.mk [(7,.ptr 10224 []),(8,bv true),(9,.ptr 10288 []),(10,bv true)] [(10224,.cells 62 (cTld (toldOf r))),(10288,.cells 62 (cTld (toldOf (rotR r a.toNat))))] 10312) (by kernel_rfl) ⟨tv,⟨⟨rfl,tv⟩,(t47 (rotR r a.toNat)),⟨(o35 hp h11 x14 hx14 h27),(o36 hp h11 x14 hx14 h27),(o37 hp h11 x14 hx14 h27)⟩,tv,(fun i36=>tv)⟩,tv,tv,tv,tv,tv,tv,tv⟩ ?_
   refine swp_seq (swp_seq ?_)
   refine sR (kt:=[7,9,63]) (kh:=[10224,10288]) (q:=True/\True/\True/\((!false)=true->(True/\True)/\True)/\((!false)=true->(((!false)=true->true=true)/\True)/\True)/\((false=true->True)/\(false=false->true=true))/\True) (st':=ASt.mk [(7,.ptr 10224 []),(9,.ptr 10288 []),(63,bv false)] [(10224,.cells 62 (cTld (toldOf r))),(10288,.cells 62 (cTld (toldOf (rotR r a.toNat))))] 10360) (by kernel_rfl) ⟨tv,tv,tv,(fun h37=>⟨⟨tv,tv⟩,tv⟩),(fun h38=>⟨⟨(fun h39=>rfl),tv⟩,tv⟩),⟨(fun h40=>tv),(fun h41=>rfl)⟩,tv⟩ ?_
   refine swp_cond false (by kernel_rfl) (fun h=>by cases h) (fun _ => ?_)
   refine swp_skip (swp_seq ?_)
   refine sR (kt:=[7,9]) (kh:=[10224,10288]) (q:=True/\True/\True/\True/\True) (st':=ASt.mk [(7,.ptr 10224 []),(9,.ptr 10288 [])] [(10224,.cells 62 [aSpans (Tld.when (toldOf r)),aSpans (Tld.old (toldOf r)),nilv,aInts (Tld.mixed (toldOf r)),iv (Tld.mixes (toldOf r)).lo,iv (Tld.mixes (toldOf r)).hi,iv (Tld.fewest (toldOf r))]),(10288,.cells 62 [aSpans (Tld.when (toldOf (rotR r a.toNat))),aSpans (Tld.old (toldOf (rotR r a.toNat))),nilv,aInts (Tld.mixed (toldOf (rotR r a.toNat))),iv (Tld.mixes (toldOf (rotR r a.toNat))).lo,iv (Tld.mixes (toldOf (rotR r a.toNat))).hi,iv (Tld.fewest (toldOf (rotR r a.toNat)))])] 10392) (by kernel_rfl) ⟨tv,tv,tv,tv,tv⟩ ?_
   refine swp_seq ?_
   refine swp_ent (ent_q (st2:=ASt.mk [(7,AV.ptr 10224 []),(9,AV.ptr 10288 [])] [(10224,OB.cells 62 (cTld (noWhr (toldOf r)))),(10288,OB.cells 62 (cTld (noWhr (toldOf (rotR r a.toNat)))))] 10392) hE [] [(10224,.same 10224),(10288,.same 10288)] [] [] (((some (Src.same 10224)=some (Src.same 10224)/\nilP = [])/\(some (Src.same 10288)=some (Src.same 10288)/\nilP = [])/\True)/\((62=62/\((2=2/\(Tld.when (toldOf r)).length=(Tld.when (noWhr (toldOf r))).length /\ ∀ (i42:Nat),i42 < (Tld.when (noWhr (toldOf r))).length -> [iv ((Tld.when (toldOf r)).getD i42 default).lo,iv ((Tld.when (toldOf r)).getD i42 default).hi] = [iv ((Tld.when (noWhr (toldOf r))).getD i42 default).lo,iv ((Tld.when (noWhr (toldOf r))).getD i42 default).hi])/\(2=2/\(Tld.old (toldOf r)).length=(Tld.old (noWhr (toldOf r))).length /\ ∀ (i44:Nat),i44 < (Tld.old (noWhr (toldOf r))).length -> [iv ((Tld.old (toldOf r)).getD i44 default).lo,iv ((Tld.old (toldOf r)).getD i44 default).hi] = [iv ((Tld.old (noWhr (toldOf r))).getD i44 default).lo,iv ((Tld.old (noWhr (toldOf r))).getD i44 default).hi])/\(Tld.whr (noWhr (toldOf r))).length=0/\(1=1/\(Tld.mixed (toldOf r)).length=(Tld.mixed (noWhr (toldOf r))).length /\ ∀ (i46:Nat),i46 < (Tld.mixed (noWhr (toldOf r))).length -> [iv ((Tld.mixed (toldOf r)).getD i46 0)] = [iv ((Tld.mixed (noWhr (toldOf r))).getD i46 0)])/\(iv (Tld.mixes (toldOf r)).lo=iv (Tld.mixes (noWhr (toldOf r))).lo/\nilN = [])/\(iv (Tld.mixes (toldOf r)).hi=iv (Tld.mixes (noWhr (toldOf r))).hi/\nilN = [])/\(iv (Tld.fewest (toldOf r))=iv (Tld.fewest (noWhr (toldOf r)))/\nilN = [])/\True)/\true=true)/\(62=62/\((2=2/\(Tld.when (toldOf (rotR r a.toNat))).length=(Tld.when (noWhr (toldOf (rotR r a.toNat)))).length /\ ∀ (i48:Nat),i48 < (Tld.when (noWhr (toldOf (rotR r a.toNat)))).length -> [iv ((Tld.when (toldOf (rotR r a.toNat))).getD i48 default).lo,iv ((Tld.when (toldOf (rotR r a.toNat))).getD i48 default).hi] = [iv ((Tld.when (noWhr (toldOf (rotR r a.toNat)))).getD i48 default).lo,iv ((Tld.when (noWhr (toldOf (rotR r a.toNat)))).getD i48 default).hi])/\(2=2/\(Tld.old (toldOf (rotR r a.toNat))).length=(Tld.old (noWhr (toldOf (rotR r a.toNat)))).length /\ ∀ (i50:Nat),i50 < (Tld.old (noWhr (toldOf (rotR r a.toNat)))).length -> [iv ((Tld.old (toldOf (rotR r a.toNat))).getD i50 default).lo,iv ((Tld.old (toldOf (rotR r a.toNat))).getD i50 default).hi] = [iv ((Tld.old (noWhr (toldOf (rotR r a.toNat)))).getD i50 default).lo,iv ((Tld.old (noWhr (toldOf (rotR r a.toNat)))).getD i50 default).hi])/\(Tld.whr (noWhr (toldOf (rotR r a.toNat)))).length=0/\(1=1/\(Tld.mixed (toldOf (rotR r a.toNat))).length=(Tld.mixed (noWhr (toldOf (rotR r a.toNat)))).length /\ ∀ (i52:Nat),i52 < (Tld.mixed (noWhr (toldOf (rotR r a.toNat)))).length -> [iv ((Tld.mixed (toldOf (rotR r a.toNat))).getD i52 0)] = [iv ((Tld.mixed (noWhr (toldOf (rotR r a.toNat)))).getD i52 0)])/\(iv (Tld.mixes (toldOf (rotR r a.toNat))).lo=iv (Tld.mixes (noWhr (toldOf (rotR r a.toNat)))).lo/\nilN = [])/\(iv (Tld.mixes (toldOf (rotR r a.toNat))).hi=iv (Tld.mixes (noWhr (toldOf (rotR r a.toNat)))).hi/\nilN = [])/\(iv (Tld.fewest (toldOf (rotR r a.toNat)))=iv (Tld.fewest (noWhr (toldOf (rotR r a.toNat))))/\nilN = [])/\True)/\true=true)/\True)/\T2) (by kernel_rfl) (by kernel_rfl) ⟨⟨⟨rfl,rfl⟩,⟨rfl,rfl⟩,tv⟩,⟨⟨rfl,⟨⟨rfl,(o38 hp h11 x14 hx14 h27),(fun i42=>(fun h43=>(o39 hp h11 x14 hx14 h27 i42 h43)))⟩,⟨rfl,(o40 hp h11 x14 hx14 h27),(fun i44=>(fun h45=>(o41 hp h11 x14 hx14 h27 i44 h45)))⟩,(o42 hp h11 x14 hx14 h27),⟨rfl,(o43 hp h11 x14 hx14 h27),(fun i46=>(fun h47=>(o44 hp h11 x14 hx14 h27 i46 h47)))⟩,⟨(congrArg iv (o45 hp h11 x14 hx14 h27)),rfl⟩,⟨(congrArg iv (o46 hp h11 x14 hx14 h27)),rfl⟩,⟨(congrArg iv (o47 hp h11 x14 hx14 h27)),rfl⟩,tv⟩,rfl⟩,⟨rfl,⟨⟨rfl,(o48 hp h11 x14 hx14 h27),(fun i48=>(fun h49=>(o49 hp h11 x14 hx14 h27 i48 h49)))⟩,⟨rfl,(o50 hp h11 x14 hx14 h27),(fun i50=>(fun h51=>(o51 hp h11 x14 hx14 h27 i50 h51)))⟩,(o52 hp h11 x14 hx14 h27),⟨rfl,(o53 hp h11 x14 hx14 h27),(fun i52=>(fun h53=>(o54 hp h11 x14 hx14 h27 i52 h53)))⟩,⟨(congrArg iv (o55 hp h11 x14 hx14 h27)),rfl⟩,⟨(congrArg iv (o56 hp h11 x14 hx14 h27)),rfl⟩,⟨(congrArg iv (o57 hp h11 x14 hx14 h27)),rfl⟩,tv⟩,rfl⟩,tv⟩,rfl,rfl⟩) ?_
   refine swp_region T0_ok mixed (cs:=[(2,CallSpec.eq (s48 (noWhr (toldOf r)) (noWhr (toldOf (rotR r a.toNat)))) [true,true]),(6,CallSpec.eq (s48 (noWhr (toldOf (rotR r a.toNat))) (noWhr (toldOf r))) [true,true]),(9,CallSpec.eq s19 [])]) (kt:=[4]) (kh:=[]) (q:=True/\True/\((AV.agg (cTld (noWhr (toldOf r)))=AV.agg (cTld (noWhr (toldOf r)))/\AV.agg (cTld (noWhr (toldOf (rotR r a.toNat))))=AV.agg (cTld (noWhr (toldOf (rotR r a.toNat))))/\True)/\Triple Try.prog 48 (s48 (noWhr (toldOf r)) (noWhr (toldOf (rotR r a.toNat))))/\Clear (noWhr (toldOf r)) (noWhr (toldOf (rotR r a.toNat)))/\True /\ ∀ (i54:Env),True)/\True/\(true=true->(True/\True)/\True)/\(true=true->(True/\True)/\True)/\(true=true->(True/\(true=true->true=true)/\(true=true->true=true)/\True)/\(AV.agg (cTld (noWhr (toldOf (rotR r a.toNat))))=AV.agg (cTld (noWhr (toldOf (rotR r a.toNat))))/\AV.agg (cTld (noWhr (toldOf r)))=AV.agg (cTld (noWhr (toldOf r)))/\True)/\Triple Try.prog 48 (s48 (noWhr (toldOf (rotR r a.toNat))) (noWhr (toldOf r)))/\Clear (noWhr (toldOf (rotR r a.toNat))) (noWhr (toldOf r))/\True /\ ∀ (i60:Env),True)/\((true=true->true=true)/\(true=false->True))/\True/\(true=true->(True/\True)/\True/\Triple Try.prog 19 s19/\True/\True /\ ∀ (i64:Env),True)/\((true=true->true=true)/\(true=false->True))/\True/\True) (st':=ASt.mk [(4,bv true)] [] 10488) (by kernel_rfl) ⟨tv,tv,⟨⟨rfl,rfl,tv⟩,(t48 (noWhr (toldOf r)) (noWhr (toldOf (rotR r a.toNat)))),(o58 hp h11 x14 hx14 h27),tv,(fun i54=>tv)⟩,tv,(fun h55=>⟨⟨tv,tv⟩,tv⟩),(fun h56=>⟨⟨tv,tv⟩,tv⟩),(fun h57=>⟨⟨tv,(fun h58=>rfl),(fun h59=>rfl),tv⟩,⟨rfl,rfl,tv⟩,(t48 (noWhr (toldOf (rotR r a.toNat))) (noWhr (toldOf r))),(o59 hp h11 x14 hx14 h27 h57),tv,(fun i60=>tv)⟩),⟨(fun h61=>rfl),(fun h62=>tv)⟩,tv,(fun h63=>⟨⟨tv,tv⟩,tv,(t19),tv,tv,(fun i64=>tv)⟩),⟨(fun h65=>rfl),(fun h66=>tv)⟩,tv,tv⟩ ?_
   refine swp_ret ?_
   exact ret_q [] ((True/\True)/\(bv true=bv true/\nilN = [])/\T3) (by kernel_rfl) ⟨⟨tv,tv⟩,⟨rfl,rfl⟩,rfl,rfl,rfl⟩
theorem t11 (r:Run) (a:Int):Triple Try.prog 11 (s11 r a):=by
 apply w11
 all_goals (first | ((repeat intro _) <;> (try simp only [v0,v1,v2,v3,v4,v5,v6,v7,v8,v9,inI,fits,Go.Sh.small] at *) <;> first | (exact rfl) | omega | exact vz | (simp_all; done) | (simp_all; omega)) | skip)
 all_goals (intro hf h; obtain ⟨g1,g2,g3⟩:=or3 h; obtain ⟨k1,k2,k3⟩:=known_ok g1; simp only [decide_eq_false_iff_not] at g2 g3)
 case o2=>exact small_known k1 hf
 case o4=>exact chLen_over r
 case o8=>rw [rfnd,if_neg (by omega)]; exact nwLen_over r
 case o13=>(repeat intro _); exact small_known k1 hf
 case o17=>intro x _ hl; simp only [decide_eq_true_eq] at hl; exact Int.emod_nonneg _ (by omega)
 case o18=>intro x _ hl; simp only [decide_eq_true_eq] at hl; exact Int.emod_lt_of_pos _ (by omega)
 case o24 =>
  intro x _ hl i hi
  rw [rot_int (by omega)]
  by_cases e:i=x
  ·subst e
   have h2:rfnd r a.toNat (i + 1) i=fnd r (rotIdx r.found.length a.toNat i):=if_pos (Nat.lt_succ_self _)
   rw [h2]
   exact rec_eq (fun h=>absurd rfl h) (fun _=>rfl)
  ·have h2:rfnd r a.toNat (x + 1) i=rfnd r a.toNat x i:=by
    unfold rfnd
    by_cases h:i < x
    ·rw [if_pos h,if_pos (by omega)]
    ·rw [if_neg h,if_neg (by omega)]
   rw [h2]
   exact rec_eq (fun _=>rfl) (fun h=>absurd h e)
 case o31=>(repeat intro _); exact (len_rot _ _).symm
 case o32 =>
  intro x _ hl i hi
  rw [len_rot] at hi
  simp only [decide_eq_false_iff_not] at hl
  rw [fnd_rot _ _ hi,rfnd,if_pos (by omega)]
 case o33=>(repeat intro _); exact k2
 case o34=>(repeat intro _); exact one_is k3
 case o35=>(repeat intro _); exact ok_fits (rot_one k2 k3 _).ok
 case o36=>(repeat intro _); exact rot_ok k2 _
 case o37=>(repeat intro _); exact one_is (rot_one k2 k3 _)
 case o58=>(repeat intro _); exact (rot_clear k3 (rot_one k2 k3 _)).1
 case o59=>(repeat intro _); exact (rot_clear k3 (rot_one k2 k3 _)).2
end Go.Ab
namespace Go.Ab
open Go Go.RowKit
def Dec (P:Program) (t:TypeId) {α:Type} (c:α->List AV) (ok:α->Prop):Prop :=
 ∀ {H:Type} (enc:TypeId × Value->H) (w:World) (E:Env) (fuel:Nat) (cs:List Value) (d:DataW H) (ps:List MemPlace),
  (∀ b,E.M b=w.heap[b]?)->DataW.trod enc P w 0 (fun _=>true) true fuel t cs=some (d,ps)->(∀ n ∈ d.weights P t,n<=reachBytes) -> ∃ a,ok a /\ ∀ o,RelL E o (c a) cs
theorem mcell_of {E:Env} {w:World} (h:∀ b,E.M b=w.heap[b]?) {a:Addr} {v:Value} (hc:w.cell? a=some v):a.spot=none/\mcell E.M a.block a.off=some v:=by
 refine ⟨World.cell?_spot hc,?_⟩
 have hs:=World.cell?_spot hc
 unfold World.cell? at hc
 unfold mcell
 rw [h]
 split at hc
 ·rename_i c t fr e
  rw [hs] at hc
  rw [e]
  simpa using hc
 ·cases hc
theorem lit_wf {n:Int} (h:(Lit.int .i64 n).wf=true) : -9223372036854775808<=n/\n<=9223372036854775807:=by
 simpa [Lit.wf,IntKind.min,IntKind.max,IntKind.signed,IntKind.bits] using h
theorem dec_int {P:Program} {t:TypeId} (ht:P.underlying t=some (.int .i64)):Dec P t (fun n=>[iv n]) (fun n => -9223372036854775808<=n/\n<=9223372036854775807):=by
 intro H enc w E fuel cs d ps _ h _
 obtain ⟨n,rfl,_,hw⟩:=DataW.trod_int ht h
 exact ⟨n,lit_wf hw,fun o => .cons (.lit _) rfl .nil⟩
theorem weightsAll_mem {H:Type} {P:Program} {e:TypeId}:∀ {l:List (DataW H)} {d:DataW H},d ∈ l -> ∀ n ∈ d.weights P e,n ∈ DataW.weightsAll P e l:=by
 intro l
 induction l with
 | nil=>intro d h; cases h
 | cons x l ih =>
  intro d h n hn
  rw [DataW.weightsAll,List.mem_append]
  rcases List.mem_cons.1 h with rfl | h
  ·exact .inl hn
  ·exact .inr (ih h n hn)
theorem dec_slice {P:Program} {t e:TypeId} {α:Type} [Inhabited α] {c:α->List AV} {ok:α->Prop} (ht:P.underlying t=some (.slice e)) {sz:Nat} (hsz:P.cellsOf e=sz) (hpos:0 < sz) (hby:0 < P.bytesOf e) (he:Dec P e c ok) :
  Dec P t (fun l:List α=>[.sl sz l.length (fun i=>c (l.getD i default))]) (fun l=>l.length<=140737488355328 /\ ∀ a,a ∈ l->ok a):=by
 intro H enc w E fuel cs d ps hE h hw
 rcases Deep.open_slice ht h with ⟨rfl,hx⟩ | ⟨a,len,cap,m,n,D,Pl,rfl,hb,hl,hm,hmm,hx,hall⟩
 ·refine ⟨[],⟨Nat.zero_le _,fun a ha=>by cases ha⟩,fun o => ?_⟩
  exact .cons (.slN _ _) rfl .nil
 ·simp only [if_true] at hmm
  subst hmm
  rw [hsz] at hall
  obtain ⟨rfl,rfl⟩:=Prod.mk.inj hx
  have hwt:∀ i,i < len -> ∀ k ∈ (D i).weights P e,k<=reachBytes:=by
   intro i hi k hk
   refine hw k ?_
   rw [DataW.weights,ht]
   refine List.mem_cons_of_mem _ (List.mem_append_left _ (weightsAll_mem (d:=D i) ?_ k hk))
   exact List.mem_map.2 ⟨i,List.mem_range.2 hi,rfl⟩
  have hlen:len<=140737488355328:=by
   have h1:(((List.range len).map D).length + ((List.range (m - len)).map fun j=>D (len + j)).length) * P.bytesOf e<=reachBytes:=by
    refine hw _ ?_
    rw [DataW.weights,ht]
    exact List.mem_cons_self ..
   simp only [List.length_map,List.length_range] at h1
   have h2:len<=(len + (m - len)) * P.bytesOf e:=Nat.le_trans (Nat.le_add_right _ _) (Nat.le_mul_of_pos_right _ hby)
   have h3:=reachBytes_lt
   omega
  obtain ⟨g,hg⟩:=Deep.choose_lt (α:=List Value) (p:=fun i cs'=>w.cells? 0 (a.add (i * sz)) sz=some cs'/\DataW.trod enc P w 0 (fun _=>true) true n e cs'=some (D i,Pl i)) hall
  have hdec:∀ i,i < len -> ∃ x,ok x /\ ∀ o,RelL E o (c x) (g i):=fun i hi=>he enc w E n (g i) (D i) (Pl i) hE (hg i (by omega)).2 (hwt i hi)
  obtain ⟨A,hA⟩:=Deep.choose_lt (α:=α) (p:=fun i x=>ok x /\ ∀ o,RelL E o (c x) (g i)) hdec
  refine ⟨(List.range len).map A,⟨by simpa using hlen,fun x hx => ?_⟩,fun o => .cons ?_ rfl .nil⟩
  ·obtain ⟨i,hi,rfl⟩:=List.mem_map.1 hx
   exact (hA i (List.mem_range.1 hi)).1
  ·rw [List.length_map,List.length_range]
   have hcell:∀ i k,i < m->k < sz -> ∃ v,(g i)[k]? = some v/\w.cell? ((a.add (i * sz)).add k)=some v:=by
    intro i k hi hk
    obtain ⟨_,hl1,hl2⟩:=World.cells?_some (hg i hi).1
    have:=hl2 k hk
    obtain ⟨v,hv⟩:∃ v,(g i)[k]? = some v:=⟨_,List.getElem?_eq_getElem (by omega)⟩
    exact ⟨v,hv,by rw [this,hv]⟩
   by_cases h0:m=0
   ·subst h0
    obtain rfl:len=0:=by omega
    exact .slZ _ _ _
   ·obtain ⟨v,_,hv⟩:=hcell 0 0 (by omega) hpos
    have hsp:=(mcell_of hE hv).1
    obtain ⟨b,off,spot⟩:=a
    obtain rfl:spot=none:=by simpa [Addr.add] using hsp
    refine .slA sz len _ b off m g hl hm (fun i hi => ?_) (fun i k hi hk => ?_) (fun i hi => ?_)
    ·exact (World.cells?_some (hg i (by omega)).1).2.1
    ·obtain ⟨v,hv1,hv2⟩:=hcell i k (by omega) hk
     rw [hv1]
     have:=(mcell_of hE hv2).2
     rw [addr_add,addr_add] at this
     exact this
    ·have:((List.range len).map A).getD i default=A i:=by
      rw [List.getD_eq_getElem?_getD,List.getElem?_map,List.getElem?_range hi]; rfl
     rw [this]
     exact (hA i hi).2 false
def DecFs (P:Program) (off fin:Nat) (fs:List Field) {α:Type} (c:α->List AV) (ok:α->Prop):Prop :=
 ∀ {H:Type} (enc:TypeId × Value->H) (w:World) (E:Env) (n:Nat) (cs:List Value) (xs:List (DataW H × List MemPlace)),
  (∀ b,E.M b=w.heap[b]?)->cs.length=fin->xs.length=fs.length->(∀ (i:Nat) (f:Field),fs[i]? = some f->DataW.trod enc P w 0 (fun _=>true) true n f.type ((cs.drop f.offset).take (P.cellsOf f.type))=xs[i]?) →
  (∀ k ∈ DataW.weightsEach P (fs.map (·.type)) (xs.map (·.1)),k<=reachBytes) -> ∃ a,ok a /\ ∀ o,RelL E o (c a) (cs.drop off)
theorem decFs_nil {P:Program} {fin:Nat}:DecFs P fin fin [] (fun _:Unit=>[]) (fun _=>True):=by
 intro H enc w E n cs xs _ hl _ _ _
 refine ⟨(),trivial,fun o => ?_⟩
 rw [List.drop_of_length_le (by omega)]
 exact .nil
theorem decFs_cons {P:Program} {off mid fin:Nat} {f:Field} {fs:List Field} {α β:Type} {c1:α->List AV} {ok1:α->Prop} {c2:β->List AV} {ok2:β->Prop} {t:TypeId} (hft:f.type=t) (ho:f.offset=off) (hm:off + P.cellsOf t=mid)
  (h1:Dec P t c1 ok1) (h2:DecFs P mid fin fs c2 ok2):DecFs P off fin (f :: fs) (fun p:α × β=>c1 p.1 ++ c2 p.2) (fun p=>ok1 p.1/\ok2 p.2):=by
 intro H enc w E n cs xs hE hl hx hall hw
 subst hft; subst ho; subst hm
 cases xs with
 | nil=>simp at hx
 | cons x xs =>
  have h0:=hall 0 f rfl
  simp only [List.getElem?_cons_zero] at h0
  obtain ⟨a,ha,hra⟩:=h1 enc w E n _ x.1 x.2 hE h0 (fun k hk=>hw k (by
   simp only [List.map_cons,DataW.weightsEach]
   exact List.mem_append_left _ hk))
  obtain ⟨b,hb,hrb⟩:=h2 enc w E n cs xs hE hl (by simpa using hx) (fun i g hg=>by
   have:=hall (i + 1) g (by simpa using hg)
   simpa using this) (fun k hk=>hw k (by
   simp only [List.map_cons,DataW.weightsEach]
   exact List.mem_append_right _ hk))
  refine ⟨(a,b),⟨ha,hb⟩,fun o => ?_⟩
  have:=(hra o).append (hrb o)
  rw [← List.drop_drop,List.take_append_drop] at this
  exact this
theorem dec_struct {P:Program} {t:TypeId} {fs:Array Field} {sz:Nat} {α:Type} {c:α->List AV} {ok:α->Prop} (ht:P.underlying t=some (.struct fs)) (hsz:P.cellsOf t=sz) (h:DecFs P 0 sz fs.toList c ok):Dec P t c ok:=by
 intro H enc w E fuel cs d ps hE hd hw
 obtain ⟨xs,n,_,hx,hl,hxl,hall⟩:=DataW.trod_struct ht hd
 obtain ⟨rfl,rfl⟩:=Prod.mk.inj hx
 obtain ⟨a,ha,hr⟩:=h enc w E n cs xs hE (by omega) (by simpa using hxl) (fun i f hf=>hall i f (by simpa using hf)) (fun k hk=>hw k (by rw [DataW.weights,ht]; exact hk))
 exact ⟨a,ha,fun o=>by simpa using hr o⟩
theorem Dec.map {P:Program} {t:TypeId} {α β:Type} {c:α->List AV} {ok:α->Prop} {c':β->List AV} {ok':β->Prop} (h:Dec P t c ok) (g:α->β) (hc:∀ a,ok a->c' (g a)=c a) (hok:∀ a,ok a->ok' (g a)):Dec P t c' ok':=by
 intro H enc w E fuel cs d ps hE hd hw
 obtain ⟨a,ha,hr⟩:=h enc w E fuel cs d ps hE hd hw
 exact ⟨g a,hok a ha,fun o=>by rw [hc a ha]; exact hr o⟩
theorem Dec.arg {P:Program} {t:TypeId} {α:Type} {c:α->List AV} {ok:α->Prop} (h:Dec P t c ok) {H:Type} {enc:TypeId × Value->H} {w:World} {E:Env} (hE:∀ b,E.M b=w.heap[b]?) {v:Value} {d:DataW H} {ps:List MemPlace}
  (hd:DataW.Trod enc P w 0 (fun _=>true) true t v d ps) (hw:∀ n ∈ d.weights P t,n<=reachBytes):∃ a,ok a /\ ∀ o,RelL E o (c a) v.cells.toList:=by
 obtain ⟨fuel,hf⟩:=hd
 exact h enc w E fuel _ d ps hE hf hw
def envOf (w:World):Env:={ M:=fun b=>w.heap[b]?,blk:=fun _=>none,hdr:=fun _=>none,fns:=fun _ _=>False }
theorem heapOK_of (P:Program) (w:World):HeapOK (calleeCtx P (envOf w) w []) (envOf w) (Heap.of []) w where
 os:=rfl
 tape:=rfl
 output:=rfl
 size:=Nat.le_refl _
 pres:=fun _ _=>rfl
 mem:=fun _ _ h=>h
 le:=Env.le.refl _
 ext:=fun _ _ h => .inl h
 own:=fun id ob h=>by cases h
 sep:=fun i j k _ h=>absurd rfl h
theorem trodAll_below {H:Type} {enc:TypeId × Value->H} {P:Program} (hl:laidOutB P=true) {W W':World} (hb:Below W.heap.size W W'):∀ {ts:List TypeId} {vs:List Value} {ds:List (DataW H)} {ps:List MemPlace},
  (∀ t ∈ ts,P.readableRec t=true/\t < P.types.size)->DataW.TrodAll enc P W 0 (fun _=>true) true ts vs ds ps->(∀ x ∈ ps,x.block < W.heap.size) →
  DataW.TrodAll enc P W' 0 (fun b=>decide (b < W.heap.size)) true ts vs ds ps:=by
 intro ts
 induction ts with
 | nil =>
  intro vs ds ps _ h _
  obtain ⟨rfl,rfl,rfl⟩:=ChangeShapes.trodAll_nil h
  exact ChangeShapes.trodAll_mk0
 | cons t ts ih =>
  intro vs ds ps hr h hlt
  obtain ⟨v,vs',d,ds',p,q,rfl,rfl,rfl,hd,hrest⟩:=ChangeShapes.trodAll_cons h
  obtain ⟨h1,h2⟩:=hr t (List.mem_cons_self ..)
  exact ⟨p,q,Below.trod hl h1 h2 hd hb (fun x hx=>hlt x (List.mem_append_left _ hx)),ih (fun t ht=>hr t (List.mem_cons_of_mem _ ht)) hrest (fun x hx=>hlt x (List.mem_append_right _ hx)),rfl⟩
theorem law_contract {P:Program} (hl:laidOutB P=true) {f:FuncId} {fn:Func} {s:ChangeSpec} (hvars:s.vars = []) {tb:TypeId} (hres:fn.resultTypes = #[tb]) (htb:P.underlying tb=some .bool)
  (hread:∀ t ∈ fn.params.toList,P.readableRec t=true/\t < P.types.size)
  {H:Type} {enc:TypeId × Value->H} {W:World} {args:Array Value} {ds gs:List (DataW H)} {before:List MemPlace}
  (hfn:ds.length=fn.params.size->s.fn H ds = { results:=[.lit (.bool true)],args:=ds })
  (hW:DataW.Whole enc P fn.params.toList s.vars false W args.toList ds gs before) {sp:CallSpec} (ht:Triple P f sp) (hp:sp.pre) (hfo:∀ E,sp.fnok E) (hin:sp.hin = []) (hout:sp.hout = []) (hr:sp.res=bv true)
  (hla:args.toList.length=sp.args.length) (hra:∀ k,Rel (envOf W) true (sp.args.getD k .any) (args.toList.getD k undef)) :
  Calls P f args W fun e W' => ∃ v,e = .returned v/\s.post enc P fn false true false false W args v W':=by
 have hok:=heapOK_of P W
 have h:=ht.2 hp (envOf W) W args.toList (hfo _) (by rw [hin]; exact hok) hla hra
 refine (h (by rw [hout]; intro p hp; cases hp)).mono fun e W' hpost => ?_
 obtain ⟨v,E',he,hh,hv,_⟩:=hpost
 rw [hr] at hv
 have hvt:v = .bool true:=by cases hv; rfl
 subst hvt
 have hb:Below W.heap.size W W':=⟨hh.os,hh.tape,hh.output,hh.size,fun k hk=>hh.pres k (by
  rintro (hc | ⟨q,hq,_⟩)
  ·exact absurd hk (Nat.not_lt.2 hc)
  ·rw [hin] at hq; cases hq)⟩
 refine ⟨_,he,?_⟩
 have hW':=hW
 obtain ⟨p,q,hA,hV,rfl,hz,hnd⟩:=hW
 rw [hvars] at hV
 obtain ⟨rfl,rfl⟩:=ChangeShapes.trodVars_none hV
 have hlen:ds.length=fn.params.size:=by
  have:∀ {ts:List TypeId} {vs:List Value} {ds:List (DataW H)} {ps:List MemPlace},DataW.TrodAll enc P W 0 (fun _=>true) true ts vs ds ps->ds.length=ts.length:=by
   intro ts
   induction ts with
   | nil=>intro vs ds ps h; obtain ⟨_,rfl,_⟩:=ChangeShapes.trodAll_nil h; rfl
   | cons t ts ih=>intro vs ds ps h; obtain ⟨_,_,_,_,_,_,rfl,rfl,rfl,_,hr⟩:=ChangeShapes.trodAll_cons h; simp [ih hr]
  simpa using this hA
 refine ⟨ds,[],p ++ [],[],p,[],hW',?_,?_,?_,hb.frame _,fun h=>by cases h⟩
 ·rw [List.append_nil,hfn hlen,hres]
  exact ChangeShapes.trodAll_mk1 (shut_bool htb true)
 ·rw [List.append_nil,hfn hlen]
  exact trodAll_below hl hb hread hA (fun x hx=>hW'.lt x (List.mem_append_left _ hx))
 ·rw [List.append_nil,hfn hlen,hvars]
  rfl
end Go.Ab
namespace Go.Ab
open Go Go.RowKit Go.Proofs Go.Sh Go.En
theorem dInt:Dec Try.prog 3 (fun n=>[iv n]) (fun n => -9223372036854775808<=n/\n<=9223372036854775807):=dec_int Try.underlying3
theorem dInts:Dec Try.prog 30 (fun l:List Int=>[aInts l]) (fun l=>l.length<=140737488355328) :=
 Dec.map (dec_slice (α:=Int) Try.underlying30 (by kernel_rfl) (by decide) (Nat.lt_of_lt_of_eq (by decide:0 < 8) (by kernel_rfl)) dInt) id (fun _ _=>rfl) (fun _ h=>h.1)
theorem dSpan:Dec Try.prog 37 cSpan (fun _=>True) :=
 Dec.map (dec_struct Try.underlying37 (sz:=2) (by kernel_rfl) (decFs_cons (mid:=1) rfl rfl (by kernel_rfl) dInt (decFs_cons (mid:=2) rfl rfl (by kernel_rfl) dInt decFs_nil))) (fun p=>(⟨p.1,p.2.1⟩:Span)) (fun _ _=>rfl) (fun _ _=>trivial)
theorem dSpans:Dec Try.prog 40 (fun l:List Span=>[aSpans l]) (fun l=>l.length<=140737488355328) :=
 Dec.map (dec_slice (α:=Span) Try.underlying40 (by kernel_rfl) (by decide) (Nat.lt_of_lt_of_eq (by decide:0 < 16) (by kernel_rfl)) dSpan) id (fun _ _=>rfl) (fun _ h=>h.1)
theorem dMach:Dec Try.prog 42 cMach (fun m=>m.changes.length<=140737488355328) :=
 Dec.map (dec_struct Try.underlying42 (sz:=2) (by kernel_rfl) (decFs_cons (mid:=1) rfl rfl (by kernel_rfl) dSpans (decFs_cons (mid:=2) rfl rfl (by kernel_rfl) dInt decFs_nil))) (fun p=>(⟨p.1,p.2.1⟩:Mach)) (fun _ _=>rfl) (fun _ h=>h.1)
theorem dFnd:Dec Try.prog 32 cFnd (fun c=>c.new.length<=140737488355328/\c.frm.length<=140737488355328) :=
 Dec.map (dec_struct Try.underlying32 (sz:=3) (by kernel_rfl) (decFs_cons (mid:=1) rfl rfl (by kernel_rfl) dInt (decFs_cons (mid:=2) rfl rfl (by kernel_rfl) dInts (decFs_cons (mid:=3) rfl rfl (by kernel_rfl) dInts decFs_nil)))) (fun p=>(⟨p.1,p.2.1,p.2.2.1⟩:Fnd)) (fun _ _=>rfl) (fun _ h=>⟨h.2.1,h.2.2.1⟩)
theorem dMachs:Dec Try.prog 22 (fun l:List Mach=>[.sl 2 l.length (fun i=>cMach (l.getD i default))]) (fun l=>l.length<=140737488355328 /\ ∀ m,m ∈ l->m.changes.length<=140737488355328) :=
 dec_slice (α:=Mach) Try.underlying22 (by kernel_rfl) (by decide) (Nat.lt_of_lt_of_eq (by decide:0 < 32) (by kernel_rfl)) dMach
theorem dFnds:Dec Try.prog 23 (fun l:List Fnd=>[.sl 3 l.length (fun i=>cFnd (l.getD i default))]) (fun l=>l.length<=140737488355328 /\ ∀ c,c ∈ l->c.new.length<=140737488355328/\c.frm.length<=140737488355328) :=
 dec_slice (α:=Fnd) Try.underlying23 (by kernel_rfl) (by decide) (Nat.lt_of_lt_of_eq (by decide:0 < 56) (by kernel_rfl)) dFnd
theorem dRun:Dec Try.prog 25 cRun fits:=by
 refine Dec.map (dec_struct Try.underlying25 (sz:=4) (by kernel_rfl) (decFs_cons (mid:=1) rfl rfl (by kernel_rfl) dInt (decFs_cons (mid:=2) rfl rfl (by kernel_rfl) dInt (decFs_cons (mid:=3) rfl rfl (by kernel_rfl) dMachs (decFs_cons (mid:=4) rfl rfl (by kernel_rfl) dFnds decFs_nil))))) (fun p=>(⟨p.1,p.2.1,p.2.2.1,p.2.2.2.1⟩:Run)) (fun _ _=>rfl) (fun p h => ?_)
 obtain ⟨_,_,⟨h1,h2⟩,⟨h3,h4⟩,_⟩:=h
 refine ⟨Nat.le_trans h1 (by decide),Nat.le_trans h3 (by decide),fun i => ?_,fun i => ?_⟩
 ·show (p.2.2.1.getD i default).changes.length<=_
  by_cases hi:i < p.2.2.1.length
  ·exact Nat.le_trans (h2 _ (getD_mem _ default hi)) (by decide)
  ·rw [getD_ge _ _ (by omega)]; exact Nat.zero_le _
 ·show (p.2.2.2.1.getD i default).new.length<=_/\(p.2.2.2.1.getD i default).frm.length<=_
  by_cases hi:i < p.2.2.2.1.length
  ·have:=h4 _ (getD_mem _ default hi)
   exact ⟨Nat.le_trans this.1 (by decide),Nat.le_trans this.2 (by decide)⟩
  ·rw [getD_ge _ _ (by omega)]; exact ⟨Nat.zero_le _,Nat.zero_le _⟩
set_option maxRecDepth 100000
theorem laidOut:laidOutB Try.prog=true:=by kernel_rfl
section
variable {H:Type} {enc:TypeId × Value->H} {W:World} {base:Nat} {v:Value} {d:DataW H} {ps:List MemPlace}
theorem arg_struct {t:TypeId} {fs:Array Field} {α:Type} {c:α->List AV} {ok:α->Prop} (ht:Try.prog.underlying t=some (.struct fs)) (hD:Dec Try.prog t c ok) (hval:Value.okWide Try.prog W .any base t v) (hd:DataW.Trod enc Try.prog W 0 (fun _=>true) true t v d ps) (hw:∀ n ∈ d.weights Try.prog t,n<=reachBytes) :
  ∃ a,ok a/\Rel (envOf W) true (.agg (c a)) v:=by
 unfold Value.okWide at hval
 rw [ht] at hval
 obtain ⟨cs,rfl,_⟩:=hval
 obtain ⟨a,ha,hr⟩:=hD.arg (E:=envOf W) (fun _=>rfl) hd hw
 refine ⟨a,ha,?_⟩
 have h:=Rel.agg (hr true)
 simpa [Value.cells] using h
theorem arg_int (hval:Value.okWide Try.prog W .any base 3 v) (hd:DataW.Trod enc Try.prog W 0 (fun _=>true) true 3 v d ps):∃ n:Int,(-9223372036854775808<=n/\n<=9223372036854775807)/\Rel (envOf W) true (iv n) v:=by
 obtain ⟨n,rfl,_,_,hw⟩:=ChangeShapes.open_int Try.underlying3 hval hd
 exact ⟨n,lit_wf hw,.lit _⟩
end
theorem weights_part {H:Type} {ts:List TypeId} {ds:List (DataW H)} (h:(DataW.weightsEach Try.prog ts ds).all (· <= reachBytes)=true) {j:Nat} {t:TypeId} {d:DataW H} (ht:ts[j]? = some t) (hd:ds[j]? = some d):∀ n ∈ d.weights Try.prog t,n<=reachBytes:=by
 intro n hn
 have:=List.all_eq_true.1 h _ (DataW.weights_mem_each ht hd n hn)
 simpa using this
end Go.Ab
namespace Go.Ab
open Go Go.RowKit Go.Proofs Go.Sh Go.En
set_option maxRecDepth 100000
def ArgD (t:TypeId) (α:Type) (c:α->AV) (ok:α->Prop):Prop :=
 (Try.prog.readableRec t=true/\t < Try.prog.types.size) /\ ∀ {H:Type} {enc:TypeId × Value->H} {W:World} {base:Nat} {v:Value} {d:DataW H} {ps:List MemPlace},Value.okWide Try.prog W .any base t v->DataW.Trod enc Try.prog W 0 (fun _=>true) true t v d ps->(∀ n ∈ d.weights Try.prog t,n<=reachBytes) -> ∃ a,ok a/\Rel (envOf W) true (c a) v
abbrev i64 (n:Int):Prop := -9223372036854775808<=n/\n<=9223372036854775807
theorem argInt:ArgD 3 Int iv i64:=⟨⟨by kernel_rfl,of_decide_eq_true (by kernel_rfl)⟩,fun hv hd _=>arg_int hv hd⟩
theorem argStruct {t:TypeId} {fs:Array Field} {α:Type} {c:α->List AV} {ok:α->Prop} (ht:Try.prog.underlying t=some (.struct fs)) (hr:Try.prog.readableRec t=true/\t < Try.prog.types.size) (hD:Dec Try.prog t c ok):ArgD t α (fun a => .agg (c a)) ok:=⟨hr,fun hv hd hw=>arg_struct ht hD hv hd hw⟩
theorem argRun:ArgD 25 Run (fun r=>vRun r) fits:=argStruct Try.underlying25 ⟨by kernel_rfl,of_decide_eq_true (by kernel_rfl)⟩ dRun
theorem law_two {f:FuncId} {fn:Func} {s:ChangeSpec} {t1 t2:TypeId} {α β:Type} {c1:α->AV} {c2:β->AV} {ok1:α->Prop} {ok2:β->Prop} (h1:ArgD t1 α c1 ok1) (h2:ArgD t2 β c2 ok2)
  (hps:fn.params = #[t1,t2]) (hres:fn.resultTypes = #[4]) (hvars:s.vars = []) (hfn:∀ (H:Type) (d1 d2:DataW H),s.fn H [d1,d2] = { results:=[.lit (.bool true)],args:=[d1,d2] })
  (sp:α->β->CallSpec) (ht:∀ r a,Triple Try.prog f (sp r a)) (hargs:∀ r a,(sp r a).args = [c1 r,c2 a]) (hpre:∀ r a,ok1 r->ok2 a->(sp r a).pre)
  (hfo:∀ r a E,(sp r a).fnok E) (hin:∀ r a,(sp r a).hin = []) (hout:∀ r a,(sp r a).hout = []) (hr:∀ r a,(sp r a).res=bv true)
  {H:Type} {enc:TypeId × Value->H} {W:World} {base:Nat} {args:Array Value} {ds gs:List (DataW H)} {before:List MemPlace}
  (hval:∀ (j:Nat) t v,fn.params[j]? = some t->args[j]? = some v->Value.okWide Try.prog W .any base t v) (hW:DataW.Whole enc Try.prog fn.params.toList s.vars false W args.toList ds gs before)
  (hsz:(DataW.weightsEach Try.prog (fn.params.toList ++ s.plain.varTypes Try.prog) (ds ++ gs)).all (· <= reachBytes)=true) :
  Calls Try.prog f args W fun e W' => ∃ v,e = .returned v/\s.post enc Try.prog fn false true false false W args v W':=by
 have hW':=hW
 obtain ⟨p,q,hA,_,_,_,_⟩:=hW
 rw [hps] at hA hval hsz
 obtain ⟨v0,v1,d0,d1,p0,p1,rfl,rfl,rfl,g0,g1⟩:=ChangeShapes.trodAll_two hA
 obtain ⟨r,hr0,r0⟩:=h1.2 (hval 0 t1 v0 rfl rfl) g0 (weights_part hsz (j:=0) rfl rfl)
 obtain ⟨a,ha,r1⟩:=h2.2 (hval 1 t2 v1 rfl rfl) g1 (weights_part hsz (j:=1) rfl rfl)
 refine law_contract laidOut hvars hres Try.underlying4 (fun t htt => ?_) (fun _=>hfn H d0 d1) hW' (ht r a) (hpre r a hr0 ha) (hfo r a) (hin r a) (hout r a) (hr r a) (by rw [hargs]; rfl) (fun k => ?_)
 ·rw [hps] at htt
  have:t=t1 ∨ t=t2:=by simpa using htt
  rcases this with rfl | rfl
  ·exact h1.1
  ·exact h2.1
 ·rw [hargs]
  rcases k with _ | _ | k
  ·exact r0
  ·exact r1
  ·exact .any _
end Go.Ab
namespace Go.Proofs.Ytcbgfmalillplaa
open Go Go.Ab Go.Sh Go.En Go.RowKit
set_option maxRecDepth 100000
theorem own:ownKnob Try.prog.godebug=none:=by kernel_rfl
def nilArgs:Array Value := #[.agg #[.int .i64 0,.int .i64 0,.slice none 0 0,.slice none 0 0],.int .i64 0]
theorem lifted (os:Os) (started:os.Started) (H:Type) (enc:TypeId × Value->H) :
  ReturnsInHanded {} Try.checked os 11 .any (Rows.copiesOrderSpec.pre6 enc Try.prog Try.f11 Rows.copiesOrderRow.domain false) (Rows.copiesOrderSpec.post enc Try.prog Try.f11 false true false false):=by
 refine returnsInHanded_of_change_sized (C:=Try.checked) own started (by kernel_rfl) Try.func11
  (ChangeSpec.witness6 (enc:=enc) (C:=Try.checked) false ⟨#[],nilArgs,[]⟩ 8 (by kernel_rfl) (by kernel_rfl) (by kernel_rfl) (by kernel_rfl)) ?_
 intro W base args ds gs before hval hW _ hsz _
 exact law_two argRun argInt Try.params11 rfl rfl (fun _ _ _=>rfl) s11 t11 (fun _ _=>rfl) (fun _ _ h _=>h) (fun _ _ _=>trivial) (fun _ _=>rfl) (fun _ _=>rfl) (fun _ _=>rfl) hval hW hsz
theorem proved:Rows.CopiesOrderSaid :=
 OpenClaim.holds_of_wide 11 Try.f11 rfl rfl rfl rfl rfl rfl rfl ⟨rfl,rfl,rfl,rfl,rfl⟩ rfl rfl rfl rfl rfl (by kernel_rfl) Try.func11 (by kernel_rfl)
  (of_decide_eq_true (by kernel_rfl)) (by unfold Func.isWrapper; first | (rw [if_pos (by decide +kernel)]; kernel_rfl) | (rw [if_neg (by decide +kernel)]; exact ⟨rfl,rfl⟩))
  (fun os started H enc _=>lifted os started H enc)
end Go.Proofs.Ytcbgfmalillplaa
