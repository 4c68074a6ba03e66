/- Part 2 of the proof: own library, plain forms and walks. -/
import Derived.Test.YtebodmfjbfiljaaQTopAltered1
import Derived.ArgAppend
import Derived.Orders
import Derived.Test.YtebodmfjbfiljaaRows
set_option linter.all false
set_option linter.deprecated false
namespace Go.Ab
open Go Go.RowKit
section
variable {C:Ctx} {E:Env} {H:Heap} {w:World} {a:Act} {o:Oper} {id:Nat} {T:Tab}
theorem run_slice_hi {P:Program} {t e:TypeId} {ei:TI} (hu:P.underlying t=some (.slice e)) (he:TOK P e ei) (w:World) (ad:Option Addr) (n cap:Nat) (l h:Int) (lo:Option Value)
  (hlo:lo=some (.int .i64 l) ∨ (lo=none/\l=0)) (h0:0<=l) (h1:l<=h) (h2:h<=cap) :
  (Instr.sliceAt t (.slice ad n cap) lo (some (.int .i64 h)) none).run P w = .ok (.slice (if cap=l.toNat then ad else ad.map (·.add (l.toNat * ei.size))) (h.toNat - l.toNat) (cap - l.toNat)) w:=by
 have a2:0<=h:=by omega
 have a3:l<=(h.toNat:Int):=by omega
 have this:=run_sliceBound (P:=P) (w:=w) .i64 h cap .sliceAcap a2 h2
 rcases hlo with rfl | ⟨rfl,rfl⟩
 ·have t2:=run_sliceBound (P:=P) (w:=w) .i64 l h.toNat .sliceB h0 a3
  simp [Instr.sliceAt,Instr.slice,run_underlying hu,Instr.sliceBounds,this,t2,he.sizeOf w]
 ·simp [Instr.sliceAt,Instr.slice,run_underlying hu,Instr.sliceBounds,this,he.sizeOf w]
theorem run_slice_three {P:Program} {t e:TypeId} {ei:TI} (hu:P.underlying t=some (.slice e)) (he:TOK P e ei) (w:World) (ad:Option Addr) (n cap:Nat) (l h m:Int) (h0:0<=l) (h1:l<=h) (h2:h<=m) (h3:m<=cap) :
  ∃ v,(Instr.sliceAt t (.slice ad n cap) (some (.int .i64 l)) (some (.int .i64 h)) (some (.int .i64 m))).run P w = .ok v w:=by
 have b1:=run_sliceBound (P:=P) (w:=w) .i64 m cap .slice3Acap (by omega) h3
 have b2:=run_sliceBound (P:=P) (w:=w) .i64 h m.toNat .slice3B (by omega) (by omega)
 have b3:=run_sliceBound (P:=P) (w:=w) .i64 l h.toNat .slice3C h0 (by omega)
 simp [Instr.sliceAt,Instr.slice,run_underlying hu,Instr.sliceBounds,b1,b2,b3,he.sizeOf w]
def evPre (T:Tab) (L:Nat->Option OB) (t:TypeId) (x lo hi mx:Option AV):Option VEff :=
 match T.kind t,x,lo,hi,mx with
 | some (.slice e),some (.vec b),none,some (.lit (.int .i64 h)),none =>
  match T e,L b with
  | some ei,some (.vec _ sz n _)=>if ei.size=sz then some (0<=h/\h<=n/\0 < n,.win b [.idx 0 0,.idx 0 n] sz h.toNat) else none
  | _,_=>none
 | some (.slice e),some (.win b [.idx 0 0,.idx 0 c] sz _),some (.lit (.int .i64 l)),some (.lit (.int .i64 h)),none =>
  match T e with
  | some ei=>if ei.size=sz then some (0<=l/\l<=h/\h<=c/\l < c,.win b [.idx l.toNat sz] sz (h.toNat - l.toNat)) else none
  | none=>none
 | some (.slice e),some (.vec b),some (.lit (.int .i64 l)),some (.lit (.int .i64 h)),some (.lit (.int .i64 m)) =>
  match T e,L b with
  | some _,some (.vec _ _ n _)=>some (0<=l/\l<=h/\h<=m/\m<=n/\0 < n,.any)
  | _,_=>none
 | _,_,_,_,_=>none
theorem lit_eval {x:Operand} {n:Int} (h:Rel E true (.lit (.int .i64 n)) (a.eval x)):a.eval x = .int .i64 n:=by
 generalize a.eval x=u at h
 cases h; rfl
theorem evPre_sound (hT:Tab.ok C.P T) (h:HeapOK C E H w) {x:Operand} {lo hi mx:Option Operand} {t:TypeId} (ho:o.op = .slice t x lo hi mx) {vx:AV} {vlo vhi vmx:Option AV} (hx:Rel E true vx (a.eval x))
  (hlo:∀ v,vlo=some v -> ∃ x,lo=some x/\Rel E true v (a.eval x)) (hlo':vlo=none->lo=none) (hhi:∀ v,vhi=some v -> ∃ x,hi=some x/\Rel E true v (a.eval x)) (hhi':vhi=none->hi=none)
  (hmx:∀ v,vmx=some v -> ∃ x,mx=some x/\Rel E true v (a.eval x)) (hmx':vmx=none->mx=none)
  {L:Nat->Option OB} (hL:∀ b ob,L b=some ob->H b=some ob) {r:VEff} (he:evPre T L t (some vx) vlo vhi vmx=some r):Good C E H w a o id ⟨r.1,r.2,[]⟩:=by
 refine Good.val h fun hq => ?_
 unfold evPre at he
 split at he
 ·rename_i e b hh hk hx0
  cases hx0
  have hu:C.P.underlying t=some (.slice e):=Tab.kind_ok hT hk
  rw [hlo' rfl,hmx' rfl] at ho
  obtain ⟨xh,rfl,hrh⟩:=hhi _ rfl
  split at he
  ·rename_i ei ty sz n f hei hLb
   split at he
   ·rename_i hs
    cases he
    obtain ⟨h0,h1,h2⟩:=hq
    obtain ⟨hd,g,hhd,hown,hg,hf,hbk,hav⟩:=h.own b _ (hL _ _ hLb)
    rcases ownsRow_form hown with ⟨hv,hn⟩ | ⟨k,cap,hv,hnc,hcm,us,hw,hul,htk⟩
    ·omega
    ·subst hv
     have hxe:a.eval x = .slice (some ⟨k,0,none⟩) n cap:=by
      generalize a.eval x=z at hx
      cases hx with
      | vec _ hh' _=>rw [hhd] at hh'; cases hh'; rfl
     have hrun:=run_slice_hi (P:=C.P) hu (hT _ _ hei) w (some ⟨k,0,none⟩) n cap 0 hh none (.inr ⟨rfl,rfl⟩) (by omega) h0 (by omega)
     have e1:((0:Int)).toNat=0:=rfl
     have e2:(if cap=(0:Int).toNat then (some ⟨k,0,none⟩:Option Addr) else (some ⟨k,0,none⟩:Option Addr).map (·.add ((0:Int).toNat * ei.size)))=some ⟨k,0,none⟩:=by
      split
      ·rfl
      ·rw [e1,Option.map_some,addr_add]; simp
     rw [e2,e1,Nat.sub_zero,Nat.sub_zero] at hrun
     refine ⟨.slice (some ⟨k,0,none⟩) hh.toNat cap,?_,?_⟩
     ·simp only [execOp,ho,hxe,lit_eval hrh,Option.map_some,Option.map_none,Sem.run_bind,hrun,Result.andThen_ok,Sem.run_pure]
     ·have e3:(0:Nat)=poff [.idx 0 0,.idx 0 n]:=by simp [poff]
      have:=Rel.win (E:=E) (cap:=cap) b [.idx 0 0,.idx 0 n] sz hh.toNat hbk ⟨by omega,hnc,fun _=>hhd⟩
      rwa [← e3] at this
   ·cases he
  ·cases he
 ·rename_i e b c sz i l hh hk hx0
  cases hx0
  have hu:C.P.underlying t=some (.slice e):=Tab.kind_ok hT hk
  rw [hmx' rfl] at ho
  obtain ⟨xl,rfl,hrl⟩:=hlo _ rfl
  obtain ⟨xh,rfl,hrh⟩:=hhi _ rfl
  split at he
  ·rename_i ei hei
   split at he
   ·rename_i hs
    cases he
    obtain ⟨h0,h1,h2,h3⟩:=hq
    generalize hxx:a.eval x=zx at hx
    cases hx with
    | win _ _ _ _ hb hcap =>
    rename_i k cap
    have hcc:c<=cap:=hcap.2.1
    have hp0:poff [.idx 0 0,.idx 0 c]=0:=by simp [poff]
    rw [hp0] at hxx
    have hrun:=run_slice_hi (P:=C.P) hu (hT _ _ hei) w (some ⟨k,0,none⟩) i cap l hh (some (.int .i64 l)) (.inl rfl) h0 h1 (by omega)
    rw [if_neg (show ¬ cap=l.toNat by omega),Option.map_some,addr_add,hs] at hrun
    refine ⟨.slice (some ⟨k,0 + l.toNat * sz,none⟩) (hh.toNat - l.toNat) (cap - l.toNat),?_,?_⟩
    ·simp only [execOp,ho,hxx,lit_eval hrl,lit_eval hrh,Option.map_some,Option.map_none,Sem.run_bind,hrun,Result.andThen_ok,Sem.run_pure]
    ·have:(0 + l.toNat * sz)=poff [.idx l.toNat sz]:=by simp [poff]
     rw [this]
     exact .win b [.idx l.toNat sz] sz _ hb ⟨by omega,by rw [capP_one]; exact Nat.zero_le _,fun hc=>absurd (capP_one _) hc⟩
   ·cases he
  ·cases he
 ·rename_i e b l hh m hk hx0
  cases hx0
  have hu:C.P.underlying t=some (.slice e):=Tab.kind_ok hT hk
  obtain ⟨xl,rfl,hrl⟩:=hlo _ rfl
  obtain ⟨xh,rfl,hrh⟩:=hhi _ rfl
  obtain ⟨xm,rfl,hrm⟩:=hmx _ rfl
  split at he
  ·rename_i ei ty sz n f hei hLb
   cases he
   obtain ⟨h0,h1,h2,h3,h4⟩:=hq
   obtain ⟨hd,g,hhd,hown,hg,hf,hbk,hav⟩:=h.own b _ (hL _ _ hLb)
   rcases ownsRow_form hown with ⟨hv,hn⟩ | ⟨k,cap,hv,hnc,hcm,us,hw,hul,htk⟩
   ·omega
   ·subst hv
    have hxe:a.eval x = .slice (some ⟨k,0,none⟩) n cap:=by
     generalize a.eval x=z at hx
     cases hx with
     | vec _ hh' _=>rw [hhd] at hh'; cases hh'; rfl
    obtain ⟨v,hrun⟩:=run_slice_three (P:=C.P) hu (hT _ _ hei) w (some ⟨k,0,none⟩) n cap l hh m h0 h1 h2 (by omega)
    refine ⟨v,?_,.any _⟩
    simp only [execOp,ho,hxe,lit_eval hrl,lit_eval hrh,lit_eval hrm,Option.map_some,Sem.run_bind,hrun,Result.andThen_ok,Sem.run_pure]
  ·cases he
 ·cases he
def evEnd (T:Tab) (L:Nat->Option OB) (t:TypeId) (x lo hi mx:Option AV):Option VEff :=
 match T.kind t,x,lo,hi,mx with
 | some (.slice e),some (.vec b),some (.lit (.int .i64 l)),none,none =>
  match T e,L b with
  | some ei,some (.vec _ sz n _)=>if ei.size=sz then some (l=n/\0 < n,.sl sz 0 (fun _=>[])) else none
  | _,_=>none
 | _,_,_,_,_=>none
theorem evEnd_sound (hT:Tab.ok C.P T) (h:HeapOK C E H w) {x:Operand} {lo hi mx:Option Operand} {t:TypeId} (ho:o.op = .slice t x lo hi mx) {vx:AV} {vlo vhi vmx:Option AV} (hx:Rel E true vx (a.eval x))
  (hlo:∀ v,vlo=some v -> ∃ x,lo=some x/\Rel E true v (a.eval x)) (hhi':vhi=none->hi=none) (hmx':vmx=none->mx=none)
  {L:Nat->Option OB} (hL:∀ b ob,L b=some ob->H b=some ob) {r:VEff} (he:evEnd T L t (some vx) vlo vhi vmx=some r):Good C E H w a o id ⟨r.1,r.2,[]⟩:=by
 refine Good.val h fun hq => ?_
 unfold evEnd at he
 split at he
 ·rename_i e b l hk hx0
  cases hx0
  have hu:C.P.underlying t=some (.slice e):=Tab.kind_ok hT hk
  rw [hhi' rfl,hmx' rfl] at ho
  obtain ⟨xl,rfl,hrl⟩:=hlo _ rfl
  split at he
  ·rename_i ei ty sz n f hei hLb
   split at he
   ·rename_i hs
    cases he
    obtain ⟨h0,h1⟩:=hq
    subst h0
    obtain ⟨hd,g,hhd,hown,hg,hf,hbk,hav⟩:=h.own b _ (hL _ _ hLb)
    rcases ownsRow_form hown with ⟨hv,hn⟩ | ⟨k,cap,hv,hnc,hcm,us,hw,hul,htk⟩
    ·omega
    ·subst hv
     have hxe:a.eval x = .slice (some ⟨k,0,none⟩) n cap:=by
      generalize a.eval x=z at hx
      cases hx with
      | vec _ hh' _=>rw [hhd] at hh'; cases hh'; rfl
     have hrun:=run_slice_gen (P:=C.P) hu (hT _ _ hei) w (some ⟨k,0,none⟩) n cap (n:Int) n (some (.int .i64 (n:Int))) none (.inl rfl) (.inr ⟨rfl,rfl⟩) (by omega) (by omega) (by omega) hnc
     rw [Int.toNat_natCast,Nat.sub_self] at hrun
     have hcap:cap - n<=maxLen:=Nat.le_trans (Nat.sub_le _ _) hcm
     by_cases hc:cap=n
     ·rw [if_pos hc] at hrun
      refine ⟨.slice (some ⟨k,0,none⟩) 0 (cap - n),by simp only [execOp,ho,hxe,lit_eval hrl,Option.map_some,Option.map_none,Sem.run_bind,hrun,Result.andThen_ok,Sem.run_pure],?_⟩
      exact .slA sz 0 _ k 0 _ (fun _=>[]) (Nat.zero_le _) hcap (fun i hi=>absurd hi (by omega)) (fun i k hi=>absurd hi (by omega)) (fun i hi=>absurd hi (by omega))
     ·rw [if_neg hc,Option.map_some,addr_add] at hrun
      refine ⟨.slice (some ⟨k,0 + n * ei.size,none⟩) 0 (cap - n),by simp only [execOp,ho,hxe,lit_eval hrl,Option.map_some,Option.map_none,Sem.run_bind,hrun,Result.andThen_ok,Sem.run_pure],?_⟩
      exact .slA sz 0 _ k _ _ (fun _=>[]) (Nat.zero_le _) hcap (fun i hi=>absurd hi (by omega)) (fun i k hi=>absurd hi (by omega)) (fun i hi=>absurd hi (by omega))
   ·cases he
  ·cases he
 ·cases he
theorem run_append_over {P:Program} (w:World) (t ty e ty':TypeId) (i:TypeInfo) (ht:P.underlying t=some (.slice e)) (hi:P.info? e=some i) (k n cap:Nat) (ad:Addr) (m c:Nat) (news us:List Value) (hl:news.length=m * i.size)
  (hnews:∀ j u,news[j]? = some u->w.cell? (ad.add j)=some u) (h1:∀ u ∈ news,u.oneCell'=true) (hroom:n + m<=cap) (hw:w.heap[k]? = some (.cells us.toArray ty' (0,0))) (hfit:n * i.size + news.length<=us.length) :
  (Builtin.append_ #[t,t] ty #[.slice (some ⟨k,0,none⟩) n cap,.slice (some ad) m c]).run P w = .ok (.slice (some ⟨k,0,none⟩) (n + m) cap) (w.setRow k (ovw us (n * i.size) news).toArray):=by
 have hfc:=run_firstCells_some (P:=P) w i.size m ad m c news hl hnews
 have hst:=run_storeCells_at P k (n * i.size) ty' news 0 us.toArray w hw (by simpa using hfit) h1
 simp [Builtin.append_,run_underlying ht,sizeOf,typeInfo,hi,Builtin.lenOf,hroom,hfc,Addr.add_lit,hst,ovw]
def evOver (T:Tab) (L:Nat->Option OB) (t:TypeId) (x y:AV):Option Eff :=
 match T.kind t,x,y with
 | some (.slice e),.win b [.idx 0 0,.idx 0 c] sz i,.win b' [.idx l sz'] sz2 m =>
  match T e,L b with
  | some ei,some (.vec ty sz3 n f)=>if b'=b/\ei.size=sz/\sz'=sz/\sz2=sz/\sz3=sz/\0 < sz then some ⟨i + m<=c/\c<=n/\l + m<=n,.win b [.idx 0 0,.idx 0 c] sz (i + m),[(b,some (.vec ty sz n (fun q=>if q < i then f q else if q < i + m then f (l + (q - i)) else f q)))]⟩ else none
  | _,_=>none
 | some (.slice e),.win b [.idx 0 0,.idx 0 c] sz i,.sl _ 0 _=>if (T e).isSome then some ⟨True,.win b [.idx 0 0,.idx 0 c] sz i,[]⟩ else none
 | _,_,_=>none
theorem evOver_sound (hT:Tab.ok C.P T) (h:HeapOK C E H w) {x y:Operand} {t:TypeId} (ho:o.op = .call { callee := .builtin .append,args := #[x,y],argTypes := #[t,t] }) {vx vy:AV} (hx:Rel E true vx (a.eval x)) (hy:Rel E true vy (a.eval y))
  {L:Nat->Option OB} (hL:∀ b ob,L b=some ob->H b=some ob) {r:Eff} (he:evOver T L t vx vy=some r):Good C E H w a o id r:=by
 unfold evOver at he
 split at he
 ·rename_i e b c sz i b' l sz' sz2 m hk
  have hu:C.P.underlying t=some (.slice e):=Tab.kind_ok hT hk
  split at he
  ·rename_i ei ty sz3 n f hei hLb
   split at he
   ·rename_i hc
    obtain ⟨rfl,hes,rfl,rfl,rfl,hp⟩:=hc
    cases he
    rintro ⟨him,hcn,hlm⟩
    have hE:=hT _ _ hei
    obtain ⟨inf,z0,hi,hs,hb,hz,hzs,hza⟩:=hE.info
    obtain ⟨hd,g,hh,hown,hg,hf,hbk,hav⟩:=h.own b' _ (hL _ _ hLb)
    generalize hxx:a.eval x=zx at hx
    generalize hyy:a.eval y=zy at hy
    cases hx with
    | win _ _ _ _ hb1 hcap =>
    rename_i k1 cap1
    cases hy with
    | win _ _ _ _ hb2 hcap2 =>
    rename_i k2 cap2
    have hcc:c<=cap1:=hcap.2.1
    rcases ownsRow_form hown with ⟨hv,hn⟩ | ⟨k,cap,hv,hnc,hcm,us,hw,hul,htk⟩
    ·subst hv
     rw [show E.blk b'=none from hbk] at hb1; cases hb1
    ·subst hv
     have hbk':E.blk b'=some k:=hbk
     have ek1:k1=k:=by rw [hbk'] at hb1; exact (Option.some.inj hb1).symm
     have ek2:k2=k:=by rw [hbk'] at hb2; exact (Option.some.inj hb2).symm
     rw [ek1] at hxx hcap
     rw [ek2] at hyy
     obtain ⟨hav1,hM⟩:=hav k rfl
     have hmul:n * sz3<=cap * sz3:=Nat.mul_le_mul_right _ hnc
     have hpo:poff [.idx l sz3]=l * sz3:=by simp [poff]
     have hp0:poff [.idx 0 0,.idx 0 c]=0:=by simp [poff]
     rw [hpo] at hyy
     rw [hp0] at hxx
     let news:List Value:=(List.range m).flatMap fun q=>g (l + q)
     have hnl:news.length=m * sz3:=flat_length _ sz3 m (fun q hq=>hg _ (by omega))
     have hsz:inf.size=sz3:=by rw [hs]; exact hes
     have hgus:∀ q r,q < n->r < sz3->us[q * sz3 + r]? = (g q)[r]? := by
      intro q r hq hr
      have hlt:q * sz3 + r < n * sz3:=by
       have:(q + 1) * sz3<=n * sz3:=Nat.mul_le_mul_right _ hq
       rw [Nat.add_mul] at this; omega
      rw [← flat_get g sz3 n hg q r hq hr,← htk,List.getElem?_take,if_pos hlt]
     have hnews:∀ j u,news[j]? = some u->w.cell? ((⟨k,l * sz3,none⟩:Addr).add j)=some u:=by
      intro j u hj
      have hlt:j < m * sz3:=by rw [← hnl]; exact (List.getElem?_eq_some_iff.1 hj).1
      have hq:j / sz3 < m:=by rw [Nat.div_lt_iff_lt_mul hp]; exact hlt
      have hr:j % sz3 < sz3:=Nat.mod_lt _ hp
      have hji:j=j / sz3 * sz3 + j % sz3:=by rw [Nat.mul_comm]; exact (Nat.div_add_mod j sz3).symm
      have h2:=flat_get (fun q=>g (l + q)) sz3 m (fun q hq=>hg _ (by omega)) _ _ hq hr
      rw [← hji] at h2
      have h3:us[l * sz3 + j]? = some u:=by
       rw [show l * sz3 + j=(l + j / sz3) * sz3 + j % sz3 by rw [Nat.add_mul]; omega,hgus _ _ (by omega) hr,← h2]
       exact hj
      rw [addr_add]
      simpa [World.cell?,hw] using h3
     have h1:∀ u ∈ news,u.oneCell'=true:=by
      intro u hu
      obtain ⟨q,hq,hu⟩:=List.mem_flatMap.1 hu
      exact (hf _ (by have:=List.mem_range.1 hq; omega)).oneCell u hu
     have hnw:i * sz3 + m * sz3<=n * sz3:=by rw [← Nat.add_mul]; exact Nat.mul_le_mul_right _ (by omega)
     have hrun:=run_append_over (P:=C.P) w t o.type e ty inf hu hi k i cap1 ⟨k,l * sz3,none⟩ m cap2 news us (by rw [hsz]; exact hnl) hnews h1 (by omega) hw (by rw [hsz,hnl,hul]; omega)
     rw [hsz] at hrun
     let g':Nat->List Value:=fun q=>if q < i then g q else if q < i + m then g (l + (q - i)) else g q
     have hg':∀ q,q < n->(g' q).length=sz3:=by
      intro q hq
      show (if q < i then g q else if q < i + m then g (l + (q - i)) else g q).length=sz3
      split
      ·exact hg q hq
      ·split
       ·exact hg _ (by omega)
       ·exact hg q hq
     refine ⟨_,_,E,.inl (by simp [execOp,ho,resolve,invoke,builtin,hxx,hyy,hrun]; exact ⟨rfl,rfl⟩),Env.le.refl E,?_,?_,fun _ _=>⟨rfl,rfl⟩⟩
     ·refine h.setVec b' k (by rw [hL _ _ hLb]; simp) hbk' hav1 hM (grownBy_setRow w k _) _ ?_
      refine ⟨_,g',hh,⟨flat_length _ _ _ hg',.inr ⟨k,cap,_,rfl,Nat.zero_le _,setRow_heap w k _ _ ty (0,0) hw,hnc,hcm,?_,?_⟩⟩,hg',fun q hq => ?_,hbk',fun k' hk'=>by cases hk'; exact ⟨hav1,hM⟩⟩
      ·simp only [List.size_toArray]
       rw [ovw_length _ _ _ (by rw [hnl,hul]; omega),hul]
      ·apply List.ext_getElem?
       intro j
       rw [List.getElem?_take]
       split
       ·rename_i hj
        have hq:j / sz3 < n:=by rw [Nat.div_lt_iff_lt_mul hp]; exact hj
        have hr:j % sz3 < sz3:=Nat.mod_lt _ hp
        have hji:j=j / sz3 * sz3 + j % sz3:=by rw [Nat.mul_comm]; exact (Nat.div_add_mod j sz3).symm
        have hqi:j / sz3 < i ↔ j < i * sz3:=Nat.div_lt_iff_lt_mul hp
        have hqm:j / sz3 < i + m ↔ j < (i + m) * sz3:=Nat.div_lt_iff_lt_mul hp
        rw [Nat.add_mul] at hqm
        rw [ovw_get _ _ _ _ (by rw [hnl,hul]; omega),hnl,flat_at g' sz3 n hp hg' hj]
        show _=(if j / sz3 < i then g (j / sz3) else if j / sz3 < i + m then g (l + (j / sz3 - i)) else g (j / sz3))[j % sz3]?
        by_cases c1:j < i * sz3
        ·rw [if_pos c1,if_pos (hqi.2 c1),← hgus _ _ hq hr,← hji]
        ·rw [if_neg c1,if_neg (fun hh=>c1 (hqi.1 hh))]
         by_cases c2:j < i * sz3 + m * sz3
         ·rw [if_pos c2,if_pos (hqm.2 c2)]
          have e2:j - i * sz3=(j / sz3 - i) * sz3 + j % sz3:=by
           have hle:i<=j / sz3:=Nat.le_of_not_lt fun hh=>c1 (hqi.1 hh)
           rw [Nat.sub_mul]
           have:i * sz3<=j / sz3 * sz3:=Nat.mul_le_mul_right _ hle
           omega
          rw [e2]
          exact flat_get (fun q=>g (l + q)) sz3 m (fun q hq=>hg _ (by omega)) _ _ (by have:=hqm.2 c2; have:i<=j / sz3:=Nat.le_of_not_lt fun hh=>c1 (hqi.1 hh); omega) hr
         ·rw [if_neg c2,if_neg (fun hh=>c2 (hqm.1 hh)),← hgus _ _ hq hr,← hji]
       ·rename_i hj
        rw [List.getElem?_eq_none (by rw [flat_length _ _ _ hg']; omega)]
      ·show RelL E false (if q < i then f q else if q < i + m then f (l + (q - i)) else f q) (if q < i then g q else if q < i + m then g (l + (q - i)) else g q)
       split
       ·exact hf q hq
       ·split
        ·exact hf _ (by omega)
        ·exact hf q hq
     ·have:=Rel.win (E:=E) (cap:=cap1) b' [.idx 0 0,.idx 0 c] sz3 (i + m) hbk' ⟨by omega,hcap.2⟩
      rwa [hp0] at this
   ·cases he
  ·cases he
 ·rename_i e b c sz i sz4 f4 hk
  have hu:C.P.underlying t=some (.slice e):=Tab.kind_ok hT hk
  split at he
  ·rename_i hei
   cases he
   obtain ⟨ei,hei⟩:=Option.isSome_iff_exists.1 hei
   obtain ⟨inf,z0,hi,hs,hb,hz,hzs,hza⟩:=(hT _ _ hei).info
   refine Good.val h fun _ => ?_
   generalize hxx:a.eval x=zx at hx
   generalize hyy:a.eval y=zy at hy
   cases hx with
   | win _ _ _ _ hb1 hcap =>
   rename_i k cap
   refine ⟨_,?_,.win b _ sz i hb1 hcap⟩
   have hni:i<=cap:=hcap.1
   have hfc:∀ ad c,(Builtin.firstCells inf.size 0 (.slice (some ad) 0 c)).run C.P w = .ok #[] w:=fun ad c=>run_firstCells_some (P:=C.P) w inf.size 0 ad 0 c [] (by simp) (fun j u hj=>by simp at hj)
   cases hy <;> first | (simp [execOp,ho,resolve,invoke,builtin,hxx,hyy,Builtin.append_,run_underlying hu,sizeOf,typeInfo,hi,Builtin.lenOf,hfc,hni,storeCells]; done) | (simp [execOp,ho,resolve,invoke,builtin,hxx,hyy,Builtin.append_,run_underlying hu,sizeOf,typeInfo,hi,Builtin.lenOf,hni,storeCells,Builtin.firstCells]; done)
  ·cases he
 ·cases he
def evMvCut (L:Nat->Option OB) (x:AV) (id:Nat):Option Eff :=
 match x with
 | .win b [.idx 0 0,.idx 0 c] sz i =>
  match L b with
  | some (.vec ty sz2 n f)=>if sz2=sz then some ⟨i<=n/\0 < c,.vec id,[(b,none),(id,some (.vec ty sz i f))]⟩ else none
  | _=>none
 | _=>none
theorem evMvCut_sound (h:HeapOK C E H w) (hf:E.blk id=none) (hf2:E.hdr id=none) {x:Operand} (ho:o.op = .move x) {vx:AV} (hx:Rel E true vx (a.eval x))
  {L:Nat->Option OB} (hL:∀ b ob,L b=some ob->H b=some ob) {r:Eff} (he:evMvCut L vx id=some r):Good C E H w a o id r:=by
 unfold evMvCut at he
 split at he
 ·rename_i b c sz i
  split at he
  ·rename_i ty sz2 n f hLb
   split at he
   ·rename_i hs
    subst hs
    cases he
    rintro ⟨h0,h1⟩
    obtain ⟨hd,g,hhd,hown,hg,hr,hbk,hav⟩:=h.own b _ (hL _ _ hLb)
    generalize hxx:a.eval x=zx at hx
    cases hx with
    | win _ _ _ _ hb1 hcap =>
    rename_i k1 cap1
    have hp0:poff [.idx 0 0,.idx 0 c]=0:=by simp [poff]
    rw [hp0] at hxx
    have key:∃ v',(execOp a.eval o).run C.P w = .ok (.value v') w/\w.ownsRow 0 ty sz2 v' i ((List.range i).flatMap g)/\(∀ k,v'.ownBlock=some k->hd.ownBlock=some k):=by
     have hfl:=flat_length g sz2 i (fun j hj=>hg j (by omega))
     have hhdr:=hcap.2.2 (show capP [.idx 0 0,.idx 0 c] ≠ 0 by show c ≠ 0; omega)
     rw [hhd] at hhdr
     have hvv:=Option.some.inj hhdr
     rcases ownsRow_form hown with ⟨hv,hn⟩ | ⟨k,cap,hv,hnc,hcm,us,hw,hul,htk⟩
     ·rw [hv] at hvv; cases hvv
     ·rw [hv] at hvv
      have ek:k1=k/\cap1=cap:=by cases hvv; exact ⟨rfl,rfl⟩
      rw [ek.1,ek.2] at hxx
      rw [ek.2] at hcap
      refine ⟨.slice (some ⟨k,0,none⟩) i cap,by simp [execOp,ho,hxx],⟨hfl,.inr ⟨k,cap,us.toArray,rfl,Nat.zero_le _,hw,hcap.1,hcm,by simpa using hul,?_⟩⟩,fun j hj=>by rw [hv]; exact hj⟩
      have:=congrArg (List.take (i * sz2)) htk
      rw [List.take_take,Nat.min_eq_left (Nat.mul_le_mul_right _ h0),flat_take g sz2 hg h0] at this
      exact this
    obtain ⟨v',hrun,how,hbk'⟩:=key
    refine ⟨v',w,_,.inl hrun,Env.le_setHdr hf hf2,?_,.vec id (setHdr_self _ _ _) (oneCell_ownsRow how),fun j hj=>⟨setHdr_other _ _ _ _ (by omega),if_neg (by omega)⟩⟩
    have hdrop:HeapOK C E (H.put b none) w:=h.drop (fun i ob hi=>by
     unfold Heap.put at hi
     split at hi
     ·cases hi
     ·exact hi)
    refine hdrop.newVec id hf hf2 hd.ownBlock (World.grownBy.refl w _) (fun j hj=>⟨(hav j hj).1,(hav j hj).2,fun c hcH hcb => ?_⟩) ty _ i _ v' g how (fun i hi=>hg i (by omega)) (fun i hi=>hr i (by omega)) (fun k hk => .inl (hbk' k hk))
    have hne:c ≠ b:=fun ec=>hcH (by rw [ec]; exact if_pos rfl)
    have hcH':H c ≠ none:=by
     have:(H.put b none) c=H c:=if_neg hne
     rw [this] at hcH; exact hcH
    exact h.sep c b j hne hcH' (by rw [hL _ _ hLb]; simp) hcb (by rw [hbk]; exact hj)
   ·cases he
  ·cases he
 ·cases he
end
end Go.Ab
namespace Go.Ab
open Go Go.RowKit
def lorI (a b:Int):Int:=((a.toNat ||| b.toNat:Nat):Int)
def inU (n:Int):Prop:=0<=n/\n<=9223372036854775807
def inO (n:Int):Prop:=0<=n/\n < 4294967296
def evSh (op:BinOp) (x y:AV):Option VEff :=
 match x,y with
 | .lit (.int .i64 a),.lit (.int .i64 b) =>
  match op with
  | .shl=>some (0<=b/\b<=62/\inI (a * 2 ^ b.toNat),.lit (.int .i64 (a * 2 ^ b.toNat)))
  | .shr=>some (0<=b/\b<=62,.lit (.int .i64 (a / 2 ^ b.toNat)))
  | .and=>some (0<=a/\b=1/\inI a,.lit (.int .i64 (a % 2)))
  | _=>none
 | .lit (.int .u64 a),.lit (.int .i64 b) =>
  match op with
  | .shl=>some (0<=b/\b<=62/\inU (a * 2 ^ b.toNat),.lit (.int .u64 (a * 2 ^ b.toNat)))
  | _=>none
 | .lit (.int .u64 a),.lit (.int .u64 b) =>
  match op with
  | .or=>some (inO a/\inO b,.lit (.int .u64 (lorI a b)))
  | _=>none
 | _,_=>none
def evApp0 (T:Tab) (L:Nat->Option OB) (t:TypeId) (x y:AV):Option Eff :=
 match T.kind t,x,srcOf L y with
 | some (.slice e),.slc sz n f,some (_,m,_)=>if (T e).isSome then some ⟨m=0,.slc sz n f,[]⟩ else none
 | _,_,_=>none
def evConv (T:Tab) (src dst:TypeId) (x:AV):Option VEff :=
 match T.kind src,T.kind dst,x with
 | some (.int .i64),some (.int .u64),.lit (.int .i64 n)=>some (0<=n/\n<=9223372036854775807,.lit (.int .u64 n))
 | _,_,_=>none
section
variable {C:Ctx} {E:Env} {H:Heap} {w:World} {a:Act} {o:Oper} {id:Nat} {T:Tab}
theorem and_one {n:Int} (h:0<=n) (h2:inI n):IntKind.i64.wrap ((BitVec.ofInt 64 n &&& BitVec.ofInt 64 1).toNat:Int)=n % 2:=by
 have e:(BitVec.ofInt 64 n &&& BitVec.ofInt 64 1).toNat=n.toNat % 2:=by
  rw [BitVec.toNat_and,show (BitVec.ofInt 64 1).toNat=1 from by decide,Nat.and_one_is_mod,BitVec.toNat_ofInt]
  have:n % ((2 ^ 64:Nat):Int)=n:=Int.emod_eq_of_lt h (by have:=h2.2; omega)
  rw [this]
 rw [e,wrap_in]
 ·omega
 ·exact ⟨by omega,by omega⟩
theorem wrap_u {n:Int} (h:0<=n/\n<=9223372036854775807):IntKind.u64.wrap n=n:=by
 unfold IntKind.wrap
 simp [IntKind.signed,IntKind.bits]
 omega
theorem or_u {a b:Int} (ha:0<=a/\a < 4294967296) (hb:0<=b/\b < 4294967296):IntKind.u64.wrap ((BitVec.ofInt 64 a ||| BitVec.ofInt 64 b).toNat:Int)=lorI a b:=by
 have e:(BitVec.ofInt 64 a ||| BitVec.ofInt 64 b).toNat=a.toNat ||| b.toNat:=by
  rw [BitVec.toNat_or,BitVec.toNat_ofInt,BitVec.toNat_ofInt]
  have h1:a % ((2 ^ 64:Nat):Int)=a:=Int.emod_eq_of_lt ha.1 (by omega)
  have h2:b % ((2 ^ 64:Nat):Int)=b:=Int.emod_eq_of_lt hb.1 (by omega)
  rw [h1,h2]
 have hlt:a.toNat ||| b.toNat < 2 ^ 32:=Nat.or_lt_two_pow (by omega) (by omega)
 rw [e,wrap_u]
 ·rfl
 ·exact ⟨by omega,by omega⟩
theorem evSh_sound (h:HeapOK C E H w) {op:BinOp} {t yt:TypeId} {x y:Operand} (ho:o.op = .binOp op t x y yt) {vx vy:AV} (hx:Rel E true vx (a.eval x)) (hy:Rel E true vy (a.eval y))
  {r:VEff} (he:evSh op vx vy=some r):Good C E H w a o id ⟨r.1,r.2,[]⟩:=by
 refine Good.val h fun hq => ?_
 unfold evSh at he
 split at he
 ·rename_i n m
  have e1:a.eval x = .int .i64 n:=by generalize a.eval x=u at hx; cases hx; rfl
  have e2:a.eval y = .int .i64 m:=by generalize a.eval y=u at hy; cases hy; rfl
  have hrun:(execOp a.eval o).run C.P w=((binOp op t (.int .i64 n) (.int .i64 m)).run C.P w).andThen fun v w' => .ok (.value v) w':=by
   cases op <;> simp [execOp,ho,e1,e2,eqGuard,Result.andThen]
  split at he
  ·cases he
   obtain ⟨h1,h2,h3⟩:=hq
   have hm:min m.toNat IntKind.i64.bits=m.toNat:=by
    show min m.toNat 64=_
    omega
   exact ⟨.int .i64 (n * 2 ^ m.toNat),by rw [hrun]; simp [binOp,Op.shift,hm,show ¬ m < 0 by omega,wrap_in _ h3],.lit _⟩
  ·cases he
   obtain ⟨h1,h2⟩:=hq
   have hm:min m.toNat IntKind.i64.bits=m.toNat:=by
    show min m.toNat 64=_
    omega
   have hf:n.fdiv (2 ^ m.toNat)=n / 2 ^ m.toNat:=Int.fdiv_eq_ediv_of_nonneg n (Int.le_of_lt (Int.pow_pos (by decide)))
   exact ⟨.int .i64 (n / 2 ^ m.toNat),by rw [hrun]; simp [binOp,Op.shift,hm,show ¬ m < 0 by omega,hf],.lit _⟩
  ·cases he
   obtain ⟨h1,h2,h3⟩:=hq
   subst h2
   refine ⟨.int .i64 (n % 2),?_,.lit _⟩
   rw [hrun]
   have:=and_one h1 h3
   simp only [binOp,Op.intBits,ne_eq,not_true_eq_false,if_false]
   show Result.andThen ((pure (Value.int .i64 (IntKind.i64.wrap ((BitVec.ofInt 64 n &&& BitVec.ofInt 64 1).toNat:Int))):Sem Value).run C.P w) _=_
   rw [this]; rfl
  ·cases he
 ·rename_i n m
  have e1:a.eval x = .int .u64 n:=by generalize a.eval x=u at hx; cases hx; rfl
  have e2:a.eval y = .int .i64 m:=by generalize a.eval y=u at hy; cases hy; rfl
  have hrun:(execOp a.eval o).run C.P w=((binOp op t (.int .u64 n) (.int .i64 m)).run C.P w).andThen fun v w' => .ok (.value v) w':=by
   cases op <;> simp [execOp,ho,e1,e2,eqGuard,Result.andThen]
  split at he
  ·cases he
   obtain ⟨h1,h2,h3⟩:=hq
   have hm:min m.toNat IntKind.u64.bits=m.toNat:=by
    show min m.toNat 64=_
    omega
   exact ⟨.int .u64 (n * 2 ^ m.toNat),by rw [hrun]; simp [binOp,Op.shift,hm,show ¬ m < 0 by omega,wrap_u h3],.lit _⟩
  ·cases he
 ·rename_i n m
  have e1:a.eval x = .int .u64 n:=by generalize a.eval x=u at hx; cases hx; rfl
  have e2:a.eval y = .int .u64 m:=by generalize a.eval y=u at hy; cases hy; rfl
  have hrun:(execOp a.eval o).run C.P w=((binOp op t (.int .u64 n) (.int .u64 m)).run C.P w).andThen fun v w' => .ok (.value v) w':=by
   cases op <;> simp [execOp,ho,e1,e2,eqGuard,Result.andThen]
  split at he
  ·cases he
   obtain ⟨h1,h2⟩:=hq
   refine ⟨.int .u64 (lorI n m),?_,.lit _⟩
   rw [hrun]
   have:=or_u h1 h2
   simp only [binOp,Op.intBits,ne_eq,not_true_eq_false,if_false]
   show Result.andThen ((pure (Value.int .u64 (IntKind.u64.wrap ((BitVec.ofInt 64 n ||| BitVec.ofInt 64 m).toNat:Int))):Sem Value).run C.P w) _=_
   rw [this]; rfl
  ·cases he
 ·cases he
def putA:List AV->List (Nat × AV)->Option (List AV)
 | vs,[]=>some vs
 | vs,(i,.lit (.int q k)) :: r=>if i < vs.length then putA (vs.set i (.lit (.int q k))) r else none
 | _,_ :: _=>none
def evBuildA (T:Tab) (t:TypeId) (parts:List (Nat × AV)):Option VEff :=
 match T t with
 | some ti =>
  match ti.k with
  | .array n e =>
   match ti.za with
   | [.arr 1 n' f] =>
    match T e with
    | some ei =>
     if n'=n/\ei.size=1/\((List.range n).all fun j=>Nat.beq (f j).length 1)=true then
      match putA ((List.range n).map fun j=>(f j).headD .any) parts with
      | some vs=>some (True,.agg [.arr 1 n (fun j=>[vs.getD j .any])])
      | none=>none
     else none
    | none=>none
   | _=>none
  | _=>none
 | none=>none
theorem fillA {E:Env}:∀ (parts:List (Nat × AV)) (vals:List (Nat × Value)) (vs:List AV) (us:List Value) (vs':List AV),vs.length=us.length->(∀ j,j < us.length->RelL E false [vs.getD j .any] [us.getD j undef])->parts.length=vals.length →
  (∀ (k:Nat) p q,parts[k]? = some p->vals[k]? = some q->p.1=q.1/\Rel E true p.2 q.2)->putA vs parts=some vs' →
  ∃ us':List Value,Instr.fill (fun i=>some (i * 1,1)) us.toArray vals=some us'.toArray/\us'.length=us.length /\ ∀ j,j < us'.length->RelL E false [vs'.getD j .any] [us'.getD j undef]:=by
 intro parts
 induction parts with
 | nil =>
  intro vals vs us vs' h1 h2 h3 h4 h5
  cases vals with
  | cons _ _=>cases h3
  | nil =>
   simp only [putA,Option.some.injEq] at h5
   subst h5
   exact ⟨us,rfl,rfl,h2⟩
 | cons p r ih =>
  intro vals vs us vs' h1 h2 h3 h4 h5
  cases vals with
  | nil=>cases h3
  | cons q rest =>
   obtain ⟨i,v⟩:=p
   obtain ⟨i',u⟩:=q
   obtain ⟨rfl,hr⟩:=h4 0 (i,v) (i',u) rfl rfl
   simp only at hr
   obtain ⟨q1,k1,rfl⟩:∃ q1 k1,v = .lit (.int q1 k1):=by
    cases v with
    | lit x =>
     cases x with
     | int q1 k1=>exact ⟨q1,k1,rfl⟩
     | _=>exact absurd h5 (by simp [putA])
    | _=>exact absurd h5 (by simp [putA])
   ·obtain ⟨hi,h6⟩:=ite_some h5
    have hu:u = .int q1 k1:=by cases hr; rfl
    subst hu
    obtain ⟨us',hf,hl,hrel⟩:=ih rest (vs.set i (.lit (.int q1 k1))) (us.set i (.int q1 k1)) vs' (by simp [h1]) (fun j hj=>by
     rw [List.length_set] at hj
     rw [List.getD_eq_getElem?_getD,List.getD_eq_getElem?_getD,List.getElem?_set,List.getElem?_set]
     by_cases e:i=j
     ·subst e
      rw [if_pos rfl,if_pos rfl,if_pos hi,if_pos hj]
      exact .cons (.lit _) rfl .nil
     ·rw [if_neg e,if_neg e,← List.getD_eq_getElem?_getD,← List.getD_eq_getElem?_getD]
      exact h2 j hj) (by simpa using h3) (fun k p q hp hq=>h4 (k + 1) p q hp hq) h6
    refine ⟨us',?_,by simpa using hl,hrel⟩
    have hsz:(Value.int q1 k1).cells = #[Value.int q1 k1]:=rfl
    have hlt:¬ (i * 1 + 1 > us.toArray.size):=by simp; omega
    simp only [Instr.fill,hsz]
    rw [if_neg (by simp; omega)]
    rw [← hf]
    congr 1
    simp
theorem flat_one (g:Nat->List Value):∀ l:List Nat,(∀ j,j ∈ l->(g j).length=1)->l.flatMap g=l.map (fun j=>(g j).headD undef):=by
 intro l
 induction l with
 | nil=>intro _; rfl
 | cons x r ih =>
  intro h
  rw [List.flatMap_cons,List.map_cons,ih (fun j hj=>h j (List.mem_cons_of_mem _ hj))]
  have:=h x List.mem_cons_self
  match hg:g x,this with
  | [u],_=>rfl
theorem evBuildA_sound (hT:Tab.ok C.P T) (h:HeapOK C E H w) {t:TypeId} {parts:Array (Nat × Operand)} (ho:o.op = .build t parts) {vals:List (Nat × AV)} (hl:vals.length=parts.size)
  (hv:∀ (k:Nat) p q,vals[k]? = some p->parts.toList[k]? = some q->p.1=q.1/\Rel E true p.2 (a.eval q.2)) {r:VEff} (he:evBuildA T t vals=some r):Good C E H w a o id ⟨r.1,r.2,[]⟩:=by
 refine Good.val h fun hq => ?_
 unfold evBuildA at he
 split at he
 ·rename_i ti hti
  split at he
  ·rename_i n e hk
   split at he
   ·rename_i n' f hza
    split at he
    ·rename_i ei hei
     obtain ⟨⟨rfl,hes,hone⟩,h6⟩:=ite_some he
     split at h6
     ·rename_i vs hput
      cases h6
      have hOK:=hT t ti hti
      obtain ⟨i,z,hi,hs,_,hz,hzs,hzr⟩:=hOK.info
      have hund:=hOK.und
      rw [hk] at hund
      replace hund:C.P.underlying t=some (.array n' e):=hund
      have hzz:=hzr E true
      rw [hza] at hzz
      generalize hzl:z.cells.toList=zl at hzz
      cases hzz with
      | cons hx _ _=>cases hx
      | arr g hg hgr hs0 =>
       cases hs0
       have hlen1:∀ j,j < n'->(f j).length=1:=fun j hj=>Nat.eq_of_beq_eq_true (List.all_eq_true.1 hone j (List.mem_range.2 hj))
       have hg1:∀ j,j < n'->(g j).length=1:=fun j hj=>hg j hj
       have hus:(List.range n').flatMap g=(List.range n').map (fun j=>(g j).headD undef):=flat_one g _ (fun j hj=>hg1 j (List.mem_range.1 hj))
       have h0:∀ j,j < ((List.range n').map (fun j=>(g j).headD undef)).length->RelL E false [((List.range n').map fun j=>(f j).headD .any).getD j .any] [((List.range n').map (fun j=>(g j).headD undef)).getD j undef]:=by
        intro j hj
        rw [List.length_map,List.length_range] at hj
        rw [List.getD_eq_getElem?_getD,List.getD_eq_getElem?_getD,List.getElem?_map,List.getElem?_map,List.getElem?_range hj]
        have h1:=hlen1 j hj
        have h2:=hg1 j hj
        have h3:=hgr j hj
        match hf:f j,h1,hgg:g j,h2 with
        | [x],_,[u],_ =>
         rw [hf,hgg] at h3
         show RelL E false [(f j).headD .any] [(g j).headD undef]
         rw [hf,hgg]
         exact h3
       obtain ⟨us',hfl,hle,hrel⟩:=fillA vals (parts.toList.map fun p=>(p.1,a.eval p.2)) _ ((List.range n').map (fun j=>(g j).headD undef)) vs (by simp) h0 (by simpa using hl) (by
        intro k p q hk1 hkq
        rw [List.getElem?_map] at hkq
        cases e':parts.toList[k]? with
        | none=>rw [e'] at hkq; cases hkq
        | some q' =>
         rw [e'] at hkq
         simp only [Option.map_some,Option.some.injEq] at hkq
         subst hkq
         exact hv k p q' hk1 e') hput
       have hln:us'.length=n':=by rw [hle]; simp
       have hzv:(zeroValue t).run C.P w = .ok z w:=by simp [zeroValue,typeInfo,hi,hz]
       have hzc:z.cells=((List.range n').map (fun j=>(g j).headD undef)).toArray:=by
        apply Array.ext'
        rw [hzl,List.append_nil,hus]
       have hb:(Instr.build t (parts.map fun p=>(p.1,a.eval p.2))).run C.P w = .ok (.agg us'.toArray) w:=by
        unfold Instr.build
        simp only [Sem.run_bind,hzv,Result.andThen_ok,run_underlying hund,(hT _ _ hei).sizeOf w,hes,Array.toList_map,hzc,hfl]
        rfl
       refine ⟨.agg us'.toArray,by simp [execOp,ho,hb],.agg ?_⟩
       have hfin:=RelL.arr (E:=E) (o:=true) (sz:=1) (n:=n') (f:=fun j=>[vs.getD j .any]) (cs:=[]) (us:=[]) (fun j=>[us'.getD j undef]) (fun _ _=>rfl) (fun j hj=>hrel j (by omega)) .nil
       have he2:(List.range n').flatMap (fun j=>[us'.getD j undef]) ++ []=us':=by
        rw [List.append_nil,flat_one _ _ (fun _ _=>rfl)]
        refine List.ext_getElem? fun k => ?_
        rw [List.getElem?_map]
        by_cases hk2:k < n'
        ·rw [List.getElem?_range hk2,List.getElem?_eq_getElem (by omega)]
         show some (us'.getD k undef)=_
         rw [List.getD_eq_getElem?_getD,List.getElem?_eq_getElem (by omega)]; rfl
        ·rw [List.getElem?_eq_none (by simp; omega),List.getElem?_eq_none (by omega)]; rfl
       rw [he2] at hfin
       exact hfin
     ·cases h6
    ·cases he
   ·cases he
  ·cases he
 ·cases he
theorem evApp0_sound (hT:Tab.ok C.P T) (h:HeapOK C E H w) {L:Nat->Option OB} (hL:∀ b ob,L b=some ob->H b=some ob) {t:TypeId} {x y:Operand} {ts:Array TypeId} (ho:o.op = .call { callee := .builtin .append,args := #[x,y],argTypes:=ts }) (hts:ts = #[t,t])
  {vx vy:AV} (hx:Rel E true vx (a.eval x)) (hy:Rel E true vy (a.eval y)) {r:Eff} (he:evApp0 T L t vx vy=some r):Good C E H w a o id r:=by
 subst hts
 unfold evApp0 at he
 split at he
 ·rename_i e sz n f sz' m g hk hs
  split at he
  ·rename_i hTe
   cases he
   refine Good.val h fun hq => ?_
   have hq:m=0:=hq
   have hu:C.P.underlying t=some (.slice e):=Tab.kind_ok hT hk
   obtain ⟨ei,hei⟩:=Option.isSome_iff_exists.1 hTe
   obtain ⟨i,zz,hi,hs',hb,hz,hzs,_⟩:=(hT _ _ hei).info
   obtain ⟨ad,cap,l,hyy,hn,hl,hrl,hc⟩:=srcOf_rel h hL hs hy
   subst hq
   refine ⟨a.eval x,?_,hx⟩
   generalize hxx:a.eval x=z at hx
   have key:∀ (bd:Option Addr) (k:Nat),(Builtin.append_ #[t,t] o.type #[.slice bd k k,.slice ad 0 cap]).run C.P w = .ok (.slice bd k k) w:=by
    intro bd k
    cases ad <;> cases bd <;> simp [Builtin.append_,run_underlying hu,sizeOf,typeInfo,hi,Builtin.lenOf,Builtin.firstCells,storeCells,loadCells,loadCellsFrom]
   have fin:∀ (bd:Option Addr) (k:Nat),z = .slice bd k k->(execOp a.eval o).run C.P w = .ok (.value z) w:=by
    intro bd k e1
    have:=key bd k
    subst e1
    simp [execOp,ho,resolve,invoke,builtin,hxx,hyy,this]
   cases hx with
   | slcN=>exact fin none 0 rfl
   | slcZ=>exact fin _ 0 rfl
   | slcA=>exact fin _ _ rfl
  ·cases he
 ·cases he
theorem evConv_sound (hT:Tab.ok C.P T) (h:HeapOK C E H w) {src dst:TypeId} {x:Operand} (ho:o.op = .convert src dst x) {vx:AV} (hx:Rel E true vx (a.eval x))
  {r:VEff} (he:evConv T src dst vx=some r):Good C E H w a o id ⟨r.1,r.2,[]⟩:=by
 refine Good.val h fun hq => ?_
 unfold evConv at he
 split at he
 ·rename_i n hk1 hk2
  cases he
  have hu1:C.P.underlying src=some (.int .i64):=Tab.kind_ok hT hk1
  have hu2:C.P.underlying dst=some (.int .u64):=Tab.kind_ok hT hk2
  have e1:a.eval x = .int .i64 n:=by generalize a.eval x=u at hx; cases hx; rfl
  have hw:IntKind.u64.wrap n=n:=by
   simp only [IntKind.wrap,IntKind.signed,IntKind.bits]
   have:=hq.1
   have:=hq.2
   first | omega | (simp; omega) | (rw [Int.emod_eq_of_lt] <;> omega) | (split <;> omega)
  refine ⟨.int .u64 n,?_,.lit _⟩
  have hc:(convert src dst (.int .i64 n)).run C.P w = .ok (.int .u64 n) w:=by
   simp [convert,run_underlying hu1,run_underlying hu2,Conv.intToInt,hw]
  simp [execOp,ho,e1,hc]
 ·cases he
end
end Go.Ab
namespace Go.Ab
open Go Go.RowKit
def opAV (tm:Nat->AV):Operand->AV
 | .tmp t=>tm t
 | .const (.agg cs)=>if cs.all (·.oneCell') then .agg (cs.toList.map AV.lit) else .any
 | .const v => .lit v
 | .global _ => .any
 | .func f => .clo f []
def ConvV (x y:AV):Prop := ∀ (E:Env) (o:Bool) (u:Value),Rel E o x u->Rel E o y u
def convP (val:Operand->AV):List (Nat × Operand)->List AV->Prop
 | p :: ps,v :: vs=>ConvV (val p.2) v/\convP val ps vs
 | _,_=>True
def convL (val:Operand->AV):List (Nat × Operand)->List AV->List (Nat × AV)
 | p :: ps,v :: vs=>(p.1,v) :: convL val ps vs
 | p :: ps,[]=>(p.1,val p.2) :: convL val ps []
 | [],_=>[]
theorem convL_len (val:Operand->AV):∀ (ps:List (Nat × Operand)) (vs:List AV),(convL val ps vs).length=ps.length:=by
 intro ps
 induction ps with
 | nil=>intro vs; rfl
 | cons p ps ih=>intro vs; cases vs <;> simp [convL,ih]
theorem conv_parts {E:Env} {a:Act} (val:Operand->AV) (hv:∀ x,Rel E true (val x) (a.eval x)):∀ (ps:List (Nat × Operand)) (vs:List AV),convP val ps vs -> ∀ (k:Nat) p q,(convL val ps vs)[k]? = some p->ps[k]? = some q->p.1=q.1/\Rel E true p.2 (a.eval q.2):=by
 intro ps
 induction ps with
 | nil=>intro vs _ k p q _ h; simp at h
 | cons x ps ih =>
  intro vs hc k p q h1 h2
  cases vs with
  | nil =>
   cases k with
   | zero=>simp [convL] at h1 h2; subst h1; subst h2; exact ⟨rfl,hv _⟩
   | succ k=>exact ih [] (by cases ps <;> trivial) k p q (by simpa [convL] using h1) (by simpa using h2)
  | cons v vs =>
   obtain ⟨hc1,hc2⟩:=hc
   cases k with
   | zero=>simp [convL] at h1 h2; subst h1; subst h2; exact ⟨rfl,hc1 _ _ _ (hv _)⟩
   | succ k=>exact ih vs hc2 k p q (by simpa [convL] using h1) (by simpa using h2)
def evOp (P:Program) (E0:Env) (T:Tab) (L:Nat->Option OB) (val:Operand->AV) (id:Nat) (cs:Option CallSpec) (o:Op):Option Eff :=
 match o with
 | .move x =>
  match cs with
  | some _=>evMvCut L (val x) id
  | none=>some ⟨True,val x,[]⟩
 | .assign x=>some ⟨True,val x,[]⟩
 | .pick c x y=>(evPick (val c) (val x) (val y)).map fun r=>⟨r.1,r.2,[]⟩
 | .alloc t=>evAlloc T t id
 | .box t x =>
  match cs with
  | none=>evBox t (val x) id
  | some _=>evBoxF L (val x)
 | .build t ps=>((evBuild T t (ps.toList.map fun p=>(p.1,val p.2))).or (evBuildA T t (ps.toList.map fun p=>(p.1,val p.2)))).map fun r=>⟨r.1,r.2,[]⟩
 | .buildSlice t n ps =>
  match cs with
  | none=>evBuildSlice T L t n (ps.toList.map fun p=>(p.1,val p.2)) id
  | some s =>
   match s.args with
   | []=>evBuildX T t n (ps.toList.map fun p=>(p.1,val p.2)) id
   | v :: vs=>(evBuildSlice T L t n (convL val ps.toList (v :: vs)) id).map fun r=>⟨convP val ps.toList (v :: vs)/\r.obl,r.res,r.upd⟩
 | .load t x=>((evLoad T L t (val x)).or (evLoadX T L t (val x))).map fun r=>⟨r.1,r.2,[]⟩
 | .store t x y =>
  match cs with
  | some _=>evStoreW T L t (val x) (val y)
  | none=>(evStore T L t (val x) (val y)).or (evStoreX T L t (val x) (val y))
 | .nilCheck x=>if isPtr (val x) then some ⟨nilQ (val x),val x,[]⟩ else none
 | .binOp op t x y _ =>
  match cs with
  | none=>((evBin T op t (val x) (val y)).or ((evNul T L op t (val x) (val y)).or ((evSh op (val x) (val y)).or (evNulF T op t (val x) (val y))))).map fun r=>⟨r.1,r.2,[]⟩
  | some _=>((arW op (val x) (val y)).map fun r=>((True,r):VEff)).map fun r=>⟨r.1,r.2,[]⟩
 | .unOp op _ x=>(evUn op (val x)).map fun r=>⟨r.1,r.2,[]⟩
 | .convert src dst x=>(evConv T src dst (val x)).map fun r=>⟨r.1,r.2,[]⟩
 | .makeFunc (.func f) first caps =>
  if first.size=0 then some ⟨True,.clo f (caps.toList.map val),[]⟩
  else
   match first.toList,caps.toList with
   | [x],[]=>(evMakeM f (val x)).map fun r=>⟨r.1,r.2,[]⟩
   | _,_=>none
 | .makeSlice t l c=>evMake T t (val l) (val c) id
 | .slice t x lo hi mx =>
  match cs with
  | some _=>(evCut T L t (val x) (lo.map val) (hi.map val) (mx.map val) id).or ((evEnd T L t (some (val x)) (lo.map val) (hi.map val) (mx.map val)).map fun r=>⟨r.1,r.2,[]⟩)
  | none =>
  match (if lo.isNone && mx.isNone then evWin T t (val x) (hi.map val) else none) with
  | some r=>some ⟨r.1,r.2,[]⟩
  | none=>((evSlice T t (val x) (lo.map val) (hi.map val) (mx.map val)).or ((match lo,hi,mx with | some l,none,none=>evVWin T L t (val x) (val l) | _,_,_=>none).or (evPre T L t (some (val x)) (lo.map val) (hi.map val) (mx.map val)))).map fun r=>⟨r.1,r.2,[]⟩
 | .fieldAddr t x i=>(evField T t i (val x)).map fun r=>⟨r.1,r.2,[]⟩
 | .indexAddr t x i=>((evIndexW T L t (val x) (val i)).or ((evIndex T L t (val x) (val i)).or (evIndexX T L t (val x) (val i)))).map fun r=>⟨r.1,r.2,[]⟩
 | .extract x i=>(evExtract (val x) i).map fun r=>⟨r.1,r.2,[]⟩
 | .field t x i=>(evFieldV T t i (val x)).map fun r=>⟨r.1,r.2,[]⟩
 | .makeMap t none=>evMakeMap T t id
 | .lookup t x y c=>(evLook P T L t (val x) (val y) c).map fun r=>⟨r.1,r.2,[]⟩
 | .mapUpdate t x y z=>evMapUp T L t (val x) (val y) (val z)
 | .call ⟨.builtin .len,args,ts⟩ =>
  match args.toList,ts.toList with
  | [x],[t] =>
   match evLenM T L t (val x) with
   | some r=>some ⟨r.1,r.2,[]⟩
   | none=>((evLen T L t (val x)).or (evLenX T L t (val x))).map fun r=>⟨r.1,r.2,[]⟩
  | _,_=>none
 | .call ⟨.builtin .append,args,ts⟩ =>
  match args.toList,ts.toList with
  | [x,y],[t,t']=>if t=t' then (if cs.isSome then evApp0 T L t (val x) (val y) else none).or ((evAppend T L t (val x) (val y) id).or ((evAppendX T L t (val x) (val y) id cs.isSome).or (evOver T L t (val x) (val y)))) else none
  | _,_=>none
 | .call ⟨.builtin .copy,args,ts⟩ =>
  match args.toList,ts.toList with
  | [x,y],[t,_]=>evCopy T L t (val x) (val y)
  | _,_=>none
 | .call ⟨.builtin .clear,args,ts⟩ =>
  match args.toList,ts.toList with
  | [x],[t]=>evClear T L t (val x)
  | _,_=>none
 | .call ⟨.builtin b,args,_⟩ =>
  match args.toList with
  | [x,y]=>(evMM b (val x) (val y)).map fun r=>⟨r.1,r.2,[]⟩
  | _=>none
 | .call ⟨.value f,args,_⟩ =>
  match cs with
  | some s=>evCall P E0 L (val f) (args.toList.map val) s id
  | none=>none
 | _=>none
section
variable {C:Ctx} {E:Env} {H:Heap} {w:World} {a:Act} {o:Oper} {id:Nat} {T:Tab}
theorem arr1 {α:Type} {xs:Array α} {x:α} (h:xs.toList = [x]):xs = #[x]:=by apply Array.ext'; simpa using h
theorem arr2 {α:Type} {xs:Array α} {x y:α} (h:xs.toList = [x,y]):xs = #[x,y]:=by apply Array.ext'; simpa using h
theorem map_getD (val:Operand->AV) (a:Act) (hv:∀ x,Rel E true (val x) (a.eval x)) (xs:List Operand) (k:Nat):Rel E true ((xs.map val).getD k .any) ((xs.map a.eval).getD k undef):=by
 simp only [List.getD_eq_getElem?_getD,List.getElem?_map]
 cases xs[k]? with
 | none=>exact .any _
 | some x=>exact hv x
theorem map_opt (val:Operand->AV) (a:Act) (hv:∀ x,Rel E true (val x) (a.eval x)) (lo:Option Operand):(∀ v,lo.map val=some v -> ∃ x,lo=some x/\Rel E true v (a.eval x))/\(lo.map val=none->lo=none):=by
 cases lo with
 | none=>exact ⟨fun v h=>(by cases h),fun _=>rfl⟩
 | some x=>exact ⟨fun v h=>(by cases h; exact ⟨x,rfl,hv x⟩),fun h=>(by cases h)⟩
theorem map_parts (val:Operand->AV) (a:Act) (hv:∀ x,Rel E true (val x) (a.eval x)) (ps:Array (Nat × Operand)) :
  ∀ (k:Nat) p q,(ps.toList.map fun p=>(p.1,val p.2))[k]? = some p->ps.toList[k]? = some q->p.1=q.1/\Rel E true p.2 (a.eval q.2):=by
 intro k p q h1 h2
 rw [List.getElem?_map,h2] at h1
 cases h1
 exact ⟨rfl,hv _⟩
theorem or_two {α:Type} {x y:Option α} {r:α} (h:x.or y=some r):x=some r ∨ y=some r:=by
 cases x with
 | none=>exact .inr h
 | some a=>exact .inl h
theorem evOp_sound (hT:Tab.ok C.P T) (h:HeapOK C E H w) (hfr:∀ j,id<=j->j < id + 8->E.blk j=none/\E.hdr j=none/\H j=none) {val:Operand->AV} (hv:∀ x,Rel E true (val x) (a.eval x))
  {L:Nat->Option OB} (hL:∀ b ob,L b=some ob->H b=some ob) {cs:Option CallSpec} {r:Eff} (he:evOp C.P C.E0 T L val id cs o.op=some r):GoodW C E H w a o id r:=by
 have f1:=(hfr id (Nat.le_refl _) (by omega)).1
 have f2:=(hfr id (Nat.le_refl _) (by omega)).2.1
 have om:∀ {x:Option VEff} {r:Eff},(x.map fun r=>(⟨r.1,r.2,[]⟩:Eff))=some r -> ∃ y,x=some y/\r=⟨y.1,y.2,[]⟩:=by
  intro x r h
  cases x with
  | none=>cases h
  | some y=>cases h; exact ⟨y,rfl,rfl⟩
 cases hop:o.op with
 | move x =>
  rw [hop] at he
  cases cs with
  | some _=>exact (evMvCut_sound h f1 f2 hop (hv x) hL he).toW
  | none=>cases he; exact (evMove_sound h (.inl hop) (hv x)).toW
 | assign x=>rw [hop] at he; cases he; exact (evMove_sound h (.inr hop) (hv x)).toW
 | pick c x y=>rw [hop] at he; obtain ⟨z,hz,rfl⟩:=om he; exact (evPick_sound h hop (hv c) (hv x) (hv y) hz).toW
 | alloc t=>rw [hop] at he; exact (evAlloc_sound hT h f1 hop he).toW
 | box t x =>
  rw [hop] at he
  cases cs with
  | none=>exact (evBox_sound h f1 hop (hv x) he).toW
  | some s=>exact (evBoxF_sound h f1 (hfr id (Nat.le_refl _) (by omega)).2.2 hop (hv x) hL he).toW
 | build t ps =>
  rw [hop] at he
  obtain ⟨z,hz,rfl⟩:=om he
  rcases or_two hz with hz | hz
  ·exact (evBuild_sound hT h hop (by simp) (map_parts val a hv ps) hz).toW
  ·exact (evBuildA_sound hT h hop (by simp) (map_parts val a hv ps) hz).toW
 | buildSlice t n ps =>
  rw [hop] at he
  cases cs with
  | none=>exact (evBuildSlice_sound hT h f1 f2 hop (by simp) (map_parts val a hv ps) hL he).toW
  | some s =>
   simp only [evOp] at he
   split at he
   ·exact (evBuildX_sound hT h f1 f2 hop (by simp) (map_parts val a hv ps) he).toW
   ·rename_i v vs _
    cases e:evBuildSlice T L t n (convL val ps.toList (v :: vs)) id with
    | none=>rw [e] at he; cases he
    | some y =>
     rw [e] at he
     cases he
     refine Good.toW fun hq => ?_
     exact evBuildSlice_sound (r:=y) hT h f1 f2 hop (by rw [convL_len]; simp) (conv_parts val hv _ _ hq.1) hL e hq.2
 | load t x =>
  rw [hop] at he
  obtain ⟨z,hz,rfl⟩:=om he
  rcases or_two hz with hz | hz
  ·exact (evLoad_sound hT h hop (hv x) hL hz).toW
  ·exact (evLoadX_sound hT h hop (hv x) hL hz).toW
 | store t x y =>
  rw [hop] at he
  cases cs with
  | some _=>exact (evStoreW_sound hT h hop (hv x) (hv y) hL he).toW
  | none =>
  rcases or_two he with he | he
  ·exact (evStore_sound hT h hop (hv x) (hv y) hL he).toW
  ·exact (evStoreX_sound hT h hop (hv x) (hv y) hL he).toW
 | nilCheck x =>
  rw [hop] at he
  simp only [evOp] at he
  split at he
  ·rename_i hp; cases he; exact (evNil_sound h hop (hv x) hp).toW
  ·cases he
 | binOp op t x y yt =>
  rw [hop] at he
  cases cs with
  | none =>
   obtain ⟨z,hz,rfl⟩:=om he
   rcases or_two hz with hz | hz
   ·exact (evBin_sound hT h hop (hv x) (hv y) hz).toW
   rcases or_two hz with hz | hz
   ·exact (evNul_sound hT h hop (hv x) (hv y) hL hz).toW
   rcases or_two hz with hz | hz
   ·exact (evSh_sound h hop (hv x) (hv y) hz).toW
   ·exact (evNulF_sound hT h hop (hv x) (hv y) hz).toW
  | some s =>
   obtain ⟨z,hz,rfl⟩:=om he
   cases hr:arW op (val x) (val y) with
   | none=>rw [hr] at hz; cases hz
   | some r=>rw [hr] at hz; cases hz; exact (arW_sound h hop (hv x) (hv y) hr).toW
 | unOp op t x=>rw [hop] at he; obtain ⟨z,hz,rfl⟩:=om he; exact (evUn_sound h hop (hv x) hz).toW
 | convert src dst x=>rw [hop] at he; obtain ⟨z,hz,rfl⟩:=om he; exact (evConv_sound hT h hop (hv x) hz).toW
 | makeFunc fn first caps =>
  rw [hop] at he
  cases fn <;> simp only [evOp] at he <;> try (cases he; done)
  split at he
  ·rename_i hz
   have:first = #[]:=Array.eq_empty_of_size_eq_zero hz
   subst this
   cases he
   exact (evMakeFunc_sound h hop (by simp) (map_getD val a hv caps.toList)).toW
  ·split at he
   ·rename_i x hf hc
    obtain ⟨z,hz,rfl⟩:=om he
    have hc':caps = #[]:=by apply Array.ext'; simpa using hc
    rw [arr1 hf,hc'] at hop
    exact (evMakeM_sound h hop (hv x) hz).toW
   ·cases he
 | makeSlice t l c=>rw [hop] at he; exact (evMake_sound hT h f1 f2 hop (hv l) (hv c) he).toW
 | slice t x lo hi mx =>
  rw [hop] at he
  cases cs with
  | some _ =>
   rcases or_two he with he | he
   ·exact (evCut_sound hT h f1 f2 hop (hv x) (map_opt val a hv lo).1 (map_opt val a hv lo).2 (map_opt val a hv hi).1 (map_opt val a hv hi).2 (map_opt val a hv mx).1 (map_opt val a hv mx).2 hL he).toW
   ·obtain ⟨z,hz,rfl⟩:=om he
    exact (evEnd_sound hT h hop (hv x) (map_opt val a hv lo).1 (map_opt val a hv hi).2 (map_opt val a hv mx).2 hL hz).toW
  | none =>
  simp only [evOp] at he
  split at he
  ·rename_i r' hw
   cases he
   split at hw
   ·rename_i hn
    simp only [Bool.and_eq_true,Option.isNone_iff_eq_none] at hn
    obtain ⟨rfl,rfl⟩:=hn
    exact (evWin_sound hT h hop (hv x) (by cases hi <;> simp) (by rintro y v rfl hv'; cases hv'; exact hv y) hw).toW
   ·cases hw
  obtain ⟨z,hz,rfl⟩:=om he
  rcases or_two hz with hz | hz
  rotate_left
  ·rcases or_two hz with hz | hz
   ·split at hz
    ·exact (evVWin_sound hT h hop (hv x) (hv _) hL hz).toW
    ·cases hz
   ·exact (evPre_sound hT h hop (hv x) (map_opt val a hv lo).1 (map_opt val a hv lo).2 (map_opt val a hv hi).1 (map_opt val a hv hi).2 (map_opt val a hv mx).1 (map_opt val a hv mx).2 hL hz).toW
  exact (evSlice_sound hT h hop (hv x) (map_opt val a hv lo).1 (map_opt val a hv lo).2 (map_opt val a hv hi).1 (map_opt val a hv hi).2 (map_opt val a hv mx).1 (map_opt val a hv mx).2 hz).toW
 | fieldAddr t x i=>rw [hop] at he; obtain ⟨z,hz,rfl⟩:=om he; exact (evField_sound hT h hop (hv x) hz).toW
 | indexAddr t x i =>
  rw [hop] at he
  obtain ⟨z,hz,rfl⟩:=om he
  rcases or_two hz with hz | hz
  ·exact (evIndexW_sound hT h hop (hv x) (hv i) hL hz).toW
  rcases or_two hz with hz | hz
  ·exact (evIndex_sound hT h hop (hv x) (hv i) hL hz).toW
  ·exact (evIndexX_sound hT h hop (hv x) (hv i) hL hz).toW
 | extract x i=>rw [hop] at he; obtain ⟨z,hz,rfl⟩:=om he; exact (evExtract_sound h hop (hv x) hz).toW
 | field t x i=>rw [hop] at he; obtain ⟨z,hz,rfl⟩:=om he; exact (evFieldV_sound hT h hop (hv x) hz).toW
 | makeMap t hint =>
  rw [hop] at he
  cases hint with
  | none=>exact (evMakeMap_sound hT h f1 f2 hop he).toW
  | some _=>cases he
 | lookup t x y c =>
  rw [hop] at he; obtain ⟨z,hz,rfl⟩:=om he; exact (evLook_sound hT h hop (hv x) (hv y) hL hz).toW
 | mapUpdate t x y z=>rw [hop] at he; exact (evMapUp_sound hT h hop (hv x) (hv y) (hv z) hL he).toW
 | call c =>
  obtain ⟨callee,args,ts⟩:=c
  cases callee with
  | invoke=>rw [hop] at he; cases he
  | value f =>
   rw [hop] at he
   simp only [evOp] at he
   split at he
   ·exact evCall_sound h hfr hop (hv f) (by simp) (map_getD val a hv args.toList) hL he
   ·cases he
  | builtin b =>
   have mm:(match args.toList with | [x,y]=>(evMM b (val x) (val y)).map fun r=>(⟨r.1,r.2,[]⟩:Eff) | _=>none)=some r->GoodW C E H w a o id r:=by
    intro he
    split at he
    ·rename_i x y hxy
     obtain ⟨z,hz,rfl⟩:=om he
     rw [arr2 hxy] at hop
     exact (evMM_sound h hop (hv x) (hv y) hz).toW
    ·cases he
   rw [hop] at he
   cases b with
   | len =>
    simp only [evOp] at he
    split at he
    ·rename_i x t hx ht
     rw [arr1 hx,arr1 ht] at hop
     split at he
     ·rename_i r' hm
      cases he
      exact (evLenM_sound hT h hop (hv x) hL hm).toW
     ·obtain ⟨z,hz,rfl⟩:=om he
      rcases or_two hz with hz | hz
      ·exact (evLen_sound hT h hop (hv x) hL hz).toW
      ·exact (evLenX_sound hT h hop (hv x) hL hz).toW
    ·cases he
   | append =>
    simp only [evOp] at he
    split at he
    ·rename_i x y t t' hx ht
     split at he
     ·rename_i htt
      subst htt
      rw [arr2 hx,arr2 ht] at hop
      rcases or_two he with he | he
      ·split at he
       ·exact (evApp0_sound hT h hL hop rfl (hv x) (hv y) he).toW
       ·cases he
      rcases or_two he with he | he
      ·exact (evAppend_sound hT h f1 f2 hop (hv x) (hv y) hL he).toW
      rcases or_two he with he | he
      ·exact (evAppendX_sound hT h f1 f2 hop (hv x) (hv y) hL he).toW
      ·exact (evOver_sound hT h hop (hv x) (hv y) hL he).toW
     ·cases he
    ·cases he
   | clear =>
    simp only [evOp] at he
    split at he
    ·rename_i x t hx ht
     rw [arr1 hx,arr1 ht] at hop
     exact (evClear_sound hT h hop (hv x) hL he).toW
    ·cases he
   | copy =>
    simp only [evOp] at he
    split at he
    ·rename_i x y t t' hx ht
     rw [arr2 hx,arr2 ht] at hop
     exact (evCopy_sound hT h hop (hv x) (hv y) hL he).toW
    ·cases he
   | _=>exact mm he
 | _=>rw [hop] at he; cases he
def truth (want:Bool):AV->Option Bool
 | .lit (.bool b)=>some (bif want then b else !b)
 | .cnd g (.lit (.bool b))=>some (g && (bif want then b else !b))
 | _=>none
def unC:AV->AV
 | .cnd _ v=>v
 | v=>v
def unQ (g:Bool):AV->Prop
 | .cnd g' _=>g=true->g'=true
 | _=>True
theorem unC_rel {g:Bool} (hg:g=true) {v:AV} (hq:unQ g v) {u:Value} (hr:Rel E true v u):Rel E true (unC v) u:=by
 cases v <;> first
  | exact hr
  | (cases hr with | cnd h1 h2=>exact h1 (hq hg))
theorem upds_back {H:Heap} {i:Nat} {ob:OB} (h:H i=some ob):H.upds [(i,none),(i,some ob)]=H:=by
 funext j
 show (if j=i then some ob else if j=i then none else H j)=H j
 by_cases e:j=i
 ·subst e; rw [if_pos rfl,h]
 ·rw [if_neg e,if_neg e]
def lastU:List (Nat × Option OB)->Nat->Option (Option OB)
 | [],_=>none
 | p :: r,j=>match lastU r j with | some x=>some x | none=>if p.1=j then some p.2 else none
theorem lastU_get:∀ (u:List (Nat × Option OB)) (H:Heap) (j:Nat),(H.upds u) j=match lastU u j with | some x=>x | none=>H j
 | [],_,_=>rfl
 | p :: r,H,j=>by
  show ((H.put p.1 p.2).upds r) j=_
  rw [lastU_get r]
  simp only [lastU]
  cases lastU r j with
  | some x=>rfl
  | none =>
   by_cases e:p.1=j
   ·rw [if_pos e]; show (if j=p.1 then p.2 else H j)=p.2; rw [if_pos e.symm]
   ·rw [if_neg e]; show (if j=p.1 then p.2 else H j)=H j; rw [if_neg (fun h=>e h.symm)]
theorem lastU_mem:∀ {u:List (Nat × Option OB)} {j:Nat} {x:Option OB},lastU u j=some x -> ∃ p ∈ u,p.1=j
 | p :: r,j,x,h=>by
  simp only [lastU] at h
  cases e:lastU r j with
  | some y=>obtain ⟨q,hq,hj⟩:=lastU_mem e; exact ⟨q,List.mem_cons_of_mem _ hq,hj⟩
  | none =>
   rw [e] at h
   by_cases e2:p.1=j
   ·exact ⟨p,List.mem_cons_self ..,e2⟩
   ·simp [e2] at h
def sameU (L:Nat->Option OB) (W:List (Nat × Option OB)):List (Nat × Option OB)->Prop
 | []=>True
 | p :: r=>(match lastU W p.1 with | some (some ob)=>L p.1=some ob | _=>False)/\sameU L W r
theorem sameU_mem {L:Nat->Option OB} {W:List (Nat × Option OB)}:∀ {l:List (Nat × Option OB)},sameU L W l -> ∀ p ∈ l,match lastU W p.1 with | some (some ob)=>L p.1=some ob | _=>False
 | q :: r,h,p,hp=>by
  cases hp with
  | head=>exact h.1
  | tail _ hp=>exact sameU_mem h.2 p hp
theorem sameU_upds {H:Heap} {L:Nat->Option OB} (hL:∀ b ob,L b=some ob->H b=some ob) {W:List (Nat × Option OB)} (h:sameU L W W):H.upds W=H:=by
 funext j
 rw [lastU_get]
 cases e:lastU W j with
 | none=>rfl
 | some x =>
  obtain ⟨p,hp,rfl⟩:=lastU_mem e
  have:=sameU_mem h p hp
  rw [e] at this
  cases x with
  | none=>exact this.elim
  | some ob=>exact (hL _ _ this).symm
def guardEff (L:Nat->Option OB) (g:Bool) (id:Nat) (q:Prop) (e:Eff):Option Eff :=
 match e.upd with
 | []=>some ⟨g=true->q/\e.obl,.cnd g e.res,[]⟩
 | [(i,some (.vec _ sz n f))] =>
  match e.res with
  | .vec j=>if i=id/\j=id then some ⟨g=true->q/\e.obl,.cnd g (.sl sz n f),[]⟩ else none
  | _=>none
 | [(i,none),(j,some ob)]=>if i=j then some ⟨g=true->q/\e.obl/\L i=some ob,.cnd g e.res,[]⟩ else none
 | [(i,none),(j,some ob),(k,some (.vec _ sz n f))] =>
  match e.res with
  | .vec m=>if i=j/\k=id/\m=id/\i ≠ id then some ⟨g=true->q/\e.obl/\L i=some ob,.cnd g (.sl sz n f),[]⟩ else none
  | _=>none
 | u=>some ⟨(g=true->q/\e.obl)/\(g=false->sameU L u u),.cnd g e.res,u⟩
def guardQ (g:Bool) (val:Operand->AV):List Operand->Prop
 | []=>True
 | x :: r=>unQ g (val x)/\guardQ g val r
theorem guardQ_mem {g:Bool} {val:Operand->AV}:∀ {xs:List Operand},guardQ g val xs -> ∀ x ∈ xs,unQ g (val x):=by
 intro xs
 induction xs with
 | nil=>intro _ x hx; cases hx
 | cons y r ih =>
  intro h x hx
  cases hx with
  | head=>exact h.1
  | tail _ hx=>exact ih h.2 x hx
def sameOpd:Operand->Operand->Bool
 | .tmp a,.tmp b=>a == b
 | .const _,.const _=>true
 | .global _,.global _=>true
 | .func _,.func _=>true
 | _,_=>false
def gops:Op->List Operand
 | .pick c _ _=>[c]
 | o=>o.operands.toList
def gval (o:Op) (tm:Nat->AV) (x:Operand):AV :=
 if (gops o).any (sameOpd x) then unC (opAV tm x) else
  match o with
  | .pick _ _ _=>opAV tm x
  | _ => .any
def evOper (P:Program) (E0:Env) (T:Tab) (L:Nat->Option OB) (tm:Nat->AV) (gd:Nat->Option Tmp) (id:Nat) (cs:Option CallSpec) (o:Oper):Option Eff :=
 match o.guard with
 | none=>evOp P E0 T L (opAV tm) id cs o.op
 | some (j,want) =>
  match (gd j).bind fun d=>truth want (tm d) with
  | some g =>
   (evOp P E0 T L (gval o.op tm) id cs o.op).bind fun e=>guardEff L g id (guardQ g (opAV tm) (gops o.op)) e
  | none=>none
theorem opAV_rel {tm:Nat->AV} (htm:∀ t,Rel E true (tm t) (a.tmps.getD t undef)) (x:Operand):Rel E true (opAV tm x) (a.eval x):=by
 cases x with
 | tmp t=>exact htm t
 | const v =>
  cases v <;> simp only [opAV] <;> try exact .lit _
  split
  ·rename_i cs hcs
   have:RelL E true (cs.toList.map AV.lit) cs.toList:=by
    have h1:∀ c ∈ cs.toList,c.oneCell'=true:=by
     intro c hc
     simp only [Array.all_eq_true_iff_forall_mem] at hcs
     exact hcs c (by simpa using hc)
    generalize cs.toList=l at h1
    induction l with
    | nil=>exact .nil
    | cons c l ih=>exact .cons (.lit c) (h1 c List.mem_cons_self) (ih fun d hd=>h1 d (List.mem_cons_of_mem _ hd))
   have h2:=Rel.agg this
   have h3:Rel E true (.agg (cs.toList.map AV.lit)) (.agg cs):=by simpa using h2
   exact h3
  ·exact .any _
 | global g=>exact .any _
 | func f=>exact .clo f rfl (fun k=>by simp; exact .any _)
theorem sameOpd_unQ {tm:Nat->AV} {g:Bool} {x y:Operand} (h:sameOpd x y=true) (hq:unQ g (opAV tm y)):unQ g (opAV tm x):=by
 cases x <;> cases y <;> simp only [sameOpd,Bool.false_eq_true] at h
 ·rename_i t u
  have:t=u:=by simpa using h
  rw [this]; exact hq
 ·rename_i v _
  cases v <;> simp only [opAV] <;> first | exact trivial | (split <;> exact trivial)
 ·exact trivial
 ·exact trivial
theorem truth_rel {want g:Bool} {v:AV} (h:truth want v=some g) {u:Value} (hr:Rel E true v u):(g=true->u = .bool want)/\(g=false->u ≠ .bool want):=by
 unfold truth at h
 split at h
 ·rename_i b
  cases hr
  cases h
  cases want <;> cases b <;> simp
 ·rename_i g' b
  cases h
  cases hr with
  | cnd h1 h2 =>
   cases g' with
   | true =>
    have:=h1 rfl
    cases this
    cases want <;> cases b <;> simp
   | false =>
    rw [h2 rfl]
    simp [undef]
 ·cases h
theorem put_none (H:Heap) (i:Nat) (x:Option OB) (h:H i=none):(H.put i x).put i none=H:=by
 funext j
 unfold Heap.put
 by_cases e:j=i
 ·rw [if_pos e,e,h]
 ·rw [if_neg e,if_neg e]
theorem evOp_nd {P:Program} {E0:Env} {L:Nat->Option OB} {val:Operand->AV} {cs:Option CallSpec} {o:Op} {r:Eff} (he:evOp P E0 T L val id cs o=some r):∀ c,o ≠ .defer c:=by
 rintro c rfl
 cases he
theorem evOper_sound (hT:Tab.ok C.P T) (h:HeapOK C E H w) (hfr:∀ j,id<=j->j < id + 8->E.blk j=none/\E.hdr j=none/\H j=none) {tm:Nat->AV} (htm:∀ t,Rel E true (tm t) (a.tmps.getD t undef))
  {ops:Array Oper} {gd:Nat->Option Tmp} (hgd:∀ j,gd j=(ops[j]?).bind (·.dst)) {L:Nat->Option OB} (hL:∀ b ob,L b=some ob->H b=some ob) {cs:Option CallSpec} {r:Eff} (he:evOper C.P C.E0 T L tm gd id cs o=some r) (hq:r.obl)
  (K:Act->World->Prop) (Q:Exit->Act->World->Prop)
  (hK:∀ v w' E',E.le E'->HeapOK C E' (H.upds r.upd) w'->Rel E' true r.res v->(∀ j,(j < id ∨ id + 8<=j)->H j=none->E'.blk j=E.blk j/\E'.hdr j=E.hdr j)->K (a.put o.dst v) w') :
  if Region.wanted o (yielded ops a.tmps) then o.wpIn C.F 0 C.P a w K Q else K (a.put o.dst undef) w:=by
 unfold evOper at he
 split at he
 ·rename_i hg
  rw [if_pos (by simp [Region.wanted,hg])]
  exact evOp_sound hT h hfr (opAV_rel htm) hL he (evOp_nd he) hq K Q hK
 ·rename_i j want hg
  split at he
  ·rename_i g htr
   cases e1:gd j with
   | none=>rw [e1] at htr; cases htr
   | some d =>
    rw [e1] at htr
    have ht:=truth_rel (E:=E) (by simpa using htr) (htm d)
    have hy:(yielded ops a.tmps j == some want)=g:=by
     unfold yielded
     rw [← hgd j,e1]
     simp only [Option.bind_some]
     cases e2:a.tmps[d]? with
     | none =>
      have hu:a.tmps.getD d undef=undef:=by simp [Array.getD_eq_getD_getElem?,e2]
      rw [hu] at ht
      cases g with
      | true=>have:=ht.1 rfl; cases this
      | false=>rfl
     | some u =>
      have hu:a.tmps.getD d undef=u:=by simp [Array.getD_eq_getD_getElem?,e2]
      rw [hu] at ht
      cases g with
      | true=>rw [ht.1 rfl]; simp
      | false =>
       have hne:=ht.2 rfl
       cases u <;> try rfl
       rename_i b
       have:b ≠ want:=fun e=>hne (by rw [e])
       simp [this]
    have hw:Region.wanted o (yielded ops a.tmps)=g:=by simp only [Region.wanted,hg]; exact hy
    rw [hw]
    cases e3:evOp C.P C.E0 T L (gval o.op tm) id cs o.op with
    | none=>rw [e3] at he; cases he
    | some e =>
     rw [e3,Option.bind_some] at he
     have hshape:(e.upd = []/\r=⟨g=true->guardQ g (opAV tm) (gops o.op)/\e.obl,.cnd g e.res,[]⟩) ∨
       (∃ t sz n f,e.upd = [(id,some (.vec t sz n f))]/\e.res = .vec id/\r=⟨g=true->guardQ g (opAV tm) (gops o.op)/\e.obl,.cnd g (.sl sz n f),[]⟩) ∨
       (∃ i ob,e.upd = [(i,none),(i,some ob)]/\r=⟨g=true->guardQ g (opAV tm) (gops o.op)/\e.obl/\L i=some ob,.cnd g e.res,[]⟩) ∨
       (∃ i ob t sz n f,i ≠ id/\e.upd = [(i,none),(i,some ob),(id,some (.vec t sz n f))]/\e.res = .vec id/\r=⟨g=true->guardQ g (opAV tm) (gops o.op)/\e.obl/\L i=some ob,.cnd g (.sl sz n f),[]⟩) ∨
       (r=⟨(g=true->guardQ g (opAV tm) (gops o.op)/\e.obl)/\(g=false->sameU L e.upd e.upd),.cnd g e.res,e.upd⟩):=by
      unfold guardEff at he
      split at he
      ·rename_i hu; cases he; exact .inl ⟨hu,rfl⟩
      ·rename_i i t sz n f hu
       split at he
       ·rename_i j' hres
        split at he
        ·rename_i hij
         obtain ⟨rfl,rfl⟩:=hij
         cases he
         exact .inr (.inl ⟨t,sz,n,f,hu,hres,rfl⟩)
        ·cases he
       ·cases he
      ·rename_i i j ob hu
       split at he
       ·rename_i hij
        subst hij
        cases he
        exact .inr (.inr (.inl ⟨i,ob,hu,rfl⟩))
       ·cases he
      ·rename_i i j ob k t sz n f hu
       split at he
       ·rename_i m hres
        split at he
        ·rename_i hij
         obtain ⟨rfl,rfl,rfl,hne⟩:=hij
         cases he
         exact .inr (.inr (.inr (.inl ⟨i,ob,t,sz,n,f,hne,hu,hres,rfl⟩)))
        ·cases he
       ·cases he
      ·cases he
       exact .inr (.inr (.inr (.inr rfl)))
     cases g with
     | false =>
      rw [if_neg (by simp)]
      have hr:H.upds r.upd=H /\ ∃ v,r.res = .cnd false v:=by
       rcases hshape with ⟨_,rfl⟩ | ⟨_,_,_,_,_,_,rfl⟩ | ⟨_,_,_,rfl⟩ | ⟨_,_,_,_,_,_,_,_,_,rfl⟩ | rfl
       ·exact ⟨rfl,_,rfl⟩
       ·exact ⟨rfl,_,rfl⟩
       ·exact ⟨rfl,_,rfl⟩
       ·exact ⟨rfl,_,rfl⟩
       ·exact ⟨sameU_upds hL (hq.2 rfl),_,rfl⟩
      obtain ⟨hu,v,hv⟩:=hr
      refine hK undef w E (Env.le.refl E) (by rw [hu]; exact h) ?_ (fun _ _ _=>⟨rfl,rfl⟩)
      rw [hv]
      exact .cnd (fun e=>by cases e) (fun _=>rfl)
     | true =>
      rw [if_pos rfl]
      have hqq:guardQ true (opAV tm) (gops o.op)/\e.obl:=by
       rcases hshape with ⟨_,rfl⟩ | ⟨_,_,_,_,_,_,rfl⟩ | ⟨_,_,_,rfl⟩ | ⟨_,_,_,_,_,_,_,_,_,rfl⟩ | rfl
       ·exact hq rfl
       ·exact hq rfl
       ·exact ⟨(hq rfl).1,(hq rfl).2.1⟩
       ·exact ⟨(hq rfl).1,(hq rfl).2.1⟩
       ·exact hq.1 rfl
      have hv:∀ x,Rel E true (gval o.op tm x) (a.eval x):=by
       intro x
       unfold gval
       split
       ·rename_i hx
        obtain ⟨y,hy,hxy⟩:=List.any_eq_true.1 hx
        exact unC_rel rfl (sameOpd_unQ hxy (guardQ_mem hqq.1 y hy)) (opAV_rel htm x)
       ·split
        ·exact opAV_rel htm x
        ·exact .any _
      refine evOp_sound hT h hfr hv hL e3 (evOp_nd e3) hqq.2 K Q fun v w' E' le hok hrel hfr' => ?_
      rcases hshape with ⟨hu,rfl⟩ | ⟨t,sz,n,f,hu,hres,rfl⟩ | ⟨i,ob,hu,rfl⟩ | ⟨i,ob,t,sz,n,f,hne,hu,hres,rfl⟩ | rfl
      ·rw [hu] at hok
       exact hK v w' E' le hok (.cnd (fun _=>hrel) (fun e=>by cases e)) hfr'
      ·rw [hu] at hok
       rw [hres] at hrel
       have hHid:=(hfr id (Nat.le_refl _) (by omega)).2.2
       have hat:(H.upds [(id,some (OB.vec t sz n f))]) id=some (.vec t sz n f):=if_pos rfl
       obtain ⟨E2,le2,hb2,hh2,hok2,hrel2⟩:=hok.freezeVec hat
       have hH:(H.upds [(id,some (OB.vec t sz n f))]).put id none=H:=put_none H id _ hHid
       rw [hH] at hok2
       refine hK v w' E2 (le.trans le2) hok2 (.cnd (fun _ => ?_) (fun e=>by cases e)) (fun j hj hHj => ?_)
       ·cases hrel with
        | vec _ hh _=>exact hrel2 v hh true
       ·rw [hb2,hh2]; exact hfr' j hj hHj
      ·rw [hu] at hok
       have hLi:=hL _ _ (hq rfl).2.2
       have hH:H.upds [(i,none),(i,some ob)]=H:=upds_back hLi
       rw [hH] at hok
       exact hK v w' E' le hok (.cnd (fun _=>hrel) (fun e=>by cases e)) hfr'
      ·rw [hu] at hok
       rw [hres] at hrel
       have hLi:=hL _ _ (hq rfl).2.2
       have hHid:=(hfr id (Nat.le_refl _) (by omega)).2.2
       have hH0:H.upds [(i,none),(i,some ob),(id,some (OB.vec t sz n f))]=H.upds [(id,some (OB.vec t sz n f))]:=by
        show (H.upds [(i,none),(i,some ob)]).upds [(id,some (OB.vec t sz n f))]=_
        rw [upds_back hLi]
       rw [hH0] at hok
       have hat:(H.upds [(id,some (OB.vec t sz n f))]) id=some (.vec t sz n f):=if_pos rfl
       obtain ⟨E2,le2,hb2,hh2,hok2,hrel2⟩:=hok.freezeVec hat
       have hH:(H.upds [(id,some (OB.vec t sz n f))]).put id none=H:=put_none H id _ hHid
       rw [hH] at hok2
       refine hK v w' E2 (le.trans le2) hok2 (.cnd (fun _ => ?_) (fun e=>by cases e)) (fun j hj hHj => ?_)
       ·cases hrel with
        | vec _ hh _=>exact hrel2 v hh true
       ·rw [hb2,hh2]; exact hfr' j hj hHj
      ·exact hK v w' E' le hok (.cnd (fun _=>hrel) (fun e=>by cases e)) hfr'
  ·cases he
end
end Go.Ab
namespace Go.Ab
open Go Go.RowKit
mutual
def ids:AV->List Nat
 | .ptr b _=>[b]
 | .vec b=>[b]
 | .vp b _ _ _=>[b]
 | .win b _ _ _=>[b]
 | .agg cs=>idsL cs
 | .tup cs=>idsL cs
 | .clo _ cs=>idsL cs
 | .cnd _ v=>ids v
 | _=>[]
def idsL:List AV->List Nat
 | []=>[]
 | c :: cs=>ids c ++ idsL cs
end
structure RS where
 tm:Nat->AV
 hp:Heap
def putT (tm:Nat->AV) (dst:Option Tmp) (v:AV):Nat->AV :=
 match dst with
 | some d=>fun t=>if t=d then v else tm t
 | none=>tm
def RS.app (s:RS) (o:Oper) (e:Eff):RS:=⟨putT s.tm o.dst e.res,s.hp.upds e.upd⟩
def tmpsOf:List Operand->List Nat
 | []=>[]
 | .tmp t :: r=>t :: tmpsOf r
 | _ :: r=>tmpsOf r
def readsOf (gd:Nat->Option Tmp) (o:Oper):List Nat :=
 tmpsOf o.op.operands.toList ++ (match o.guard with | some (j,_)=>(gd j).toList | none=>[])
def cutT (l:List Nat) (tm:Nat->AV):Nat->AV:=fun t=>if l.contains t then tm t else .any
def cutH (l:List Nat) (H:Heap):Heap:=fun b=>if l.contains b then H b else none
def needsOf (tm:Nat->AV) (o:Oper):List Nat :=
 match o.op with
 | .nilCheck _=>[]
 | .move _=>[]
 | .fieldAddr _ _ _=>[]
 | op=>op.operands.toList.flatMap fun x=>ids (opAV tm x)
def needsC (cs:Option CallSpec) (tm:Nat->AV) (o:Oper):List Nat :=
 needsOf tm o ++ (match cs with | some s=>s.hin.map (·.1) | none=>[])
structure RCtx where
 P:Program
 E0:Env
 T:Tab
 nt:Nat
 gd:Nat->Option Tmp
 nx:Nat
 cs:Nat->Option CallSpec
def dstOK (nt:Nat):Option Tmp->Bool
 | some d=>decide (d < nt)
 | none=>true
def RCtx.ev (X:RCtx) (i:Nat) (o:Oper) (s:RS):Option Eff :=
 let tm:=cutT (readsOf X.gd o) s.tm
 evOper X.P X.E0 X.T (cutH (needsC (X.cs i) tm o) s.hp) tm X.gd (X.nx + 8 * i) (X.cs i) o
def RCtx.effs (X:RCtx):List Oper->Nat->RS->Option (List Eff)
 | [],_,_=>some []
 | o :: r,i,s =>
  match X.ev i o s with
  | some e=>if dstOK X.nt o.dst then (X.effs r (i + 1) (s.app o e)).map (e :: ·) else none
  | none=>none
def obls:List Eff->Prop
 | []=>True
 | e :: r=>e.obl/\obls r
def appAll:RS->List Oper->List Eff->RS
 | s,o :: r,e :: es=>appAll (s.app o e) r es
 | s,_,_=>s
def DefL (E0 E:Env):List Deferred->Prop
 | []=>True
 | d :: r=>(∃ D,d = { target := .collected D,args := #[] } /\ E.M D=some (.deferred (some []))/\E0.M D=none /\ ∀ d' ∈ r,d' ≠ d)/\DefL E0 E r
theorem DefL.monoM {E0 E F:Env} (le:∀ b o,E.M b=some o->F.M b=some o):∀ {ds:List Deferred},DefL E0 E ds->DefL E0 F ds
 | [],_=>trivial
 | _ :: _,⟨⟨D,h1,h2,h3⟩,h4⟩=>⟨⟨D,h1,le _ _ h2,h3⟩,h4.monoM le⟩
theorem DefL.mono {E0 E F:Env} (le:E.le F) {ds:List Deferred} (h:DefL E0 E ds):DefL E0 F ds:=h.monoM le.M
structure RSok (C:Ctx) (E:Env) (nt:Nat) (s:RS) (w:World) (a:Act):Prop where
 heap:HeapOK C E s.hp w
 tm:∀ t,Rel E true (s.tm t) (a.tmps.getD t undef)
 defers:(C.df=false->a.defers = [])/\DefL C.E0 E a.defers
 size:a.tmps.size=nt
def Free (E:Env) (H:Heap) (j:Nat):Prop:=E.blk j=none/\E.hdr j=none/\H j=none
section
variable {C:Ctx} {E:Env} {w:World} {a:Act}
theorem cutT_rel {tm:Nat->AV} {l:List Nat} (h:∀ t,Rel E true (tm t) (a.tmps.getD t undef)) (t:Nat):Rel E true (cutT l tm t) (a.tmps.getD t undef):=by
 unfold cutT
 split
 ·exact h t
 ·exact .any _
theorem cutH_some {l:List Nat} {H:Heap} {b:Nat} {ob:OB} (h:cutH l H b=some ob):H b=some ob:=by
 unfold cutH at h
 split at h
 ·exact h
 ·cases h
theorem put_tm {tm:Nat->AV} {E':Env} (le:E.le E') {dst:Option Tmp} {v:AV} {u:Value} (h:∀ t,Rel E true (tm t) (a.tmps.getD t undef)) (hd:dstOK a.tmps.size dst=true) (hr:Rel E' true v u) (t:Nat) :
  Rel E' true (putT tm dst v t) ((a.put dst u).tmps.getD t undef):=by
 cases dst with
 | none=>exact (h t).mono le
 | some d =>
  have hlt:d < a.tmps.size:=by simpa [dstOK] using hd
  show Rel E' true (if t=d then v else tm t) ((a.tmps.setIfInBounds d u).getD t undef)
  by_cases e:t=d
  ·subst e
   rw [if_pos rfl]
   have:(a.tmps.setIfInBounds t u).getD t undef=u:=by simp [Array.getD_eq_getD_getElem?,hlt]
   rw [this]; exact hr
  ·rw [if_neg e]
   have:(a.tmps.setIfInBounds d u).getD t undef=a.tmps.getD t undef:=by
    simp only [Array.getD_eq_getD_getElem?]
    rw [Array.getElem?_setIfInBounds_ne (fun h=>e h.symm)]
   rw [this]; exact (h t).mono le
theorem put_defers (a:Act) (dst:Option Tmp) (u:Value):(a.put dst u).defers=a.defers:=by cases dst <;> rfl
theorem put_size (a:Act) (dst:Option Tmp) (u:Value):(a.put dst u).tmps.size=a.tmps.size:=by
 cases dst with
 | none=>rfl
 | some d=>exact Array.size_setIfInBounds ..
theorem RCtx.ev_step {X:RCtx} (hP:X.P=C.P) (hE:X.E0=C.E0) (hT:Tab.ok C.P X.T) {i:Nat} {o:Oper} {s:RS} {e:Eff} {ops:Array Oper} (hgd:∀ j,X.gd j=(ops[j]?).bind (·.dst)) (hs:RSok C E X.nt s w a)
  (hfr:∀ j,X.nx + 8 * i<=j->j < X.nx + 8 * i + 8->Free E s.hp j) (he:X.ev i o s=some e) (hd:dstOK X.nt o.dst=true) (hq:e.obl) (K:Act->World->Prop) (Q:Exit->Act->World->Prop)
  (hK:∀ a' w' E',E.le E'->RSok C E' X.nt (s.app o e) w' a'->(∀ j,(j < X.nx + 8 * i ∨ X.nx + 8 * i + 8<=j)->s.hp j=none->E'.blk j=E.blk j/\E'.hdr j=E.hdr j)->K a' w') :
  if Region.wanted o (yielded ops a.tmps) then o.wpIn C.F 0 C.P a w K Q else K (a.put o.dst undef) w:=by
 unfold RCtx.ev at he
 rw [hP,hE] at he
 refine evOper_sound hT hs.heap hfr (cutT_rel hs.tm) hgd (fun b ob h=>cutH_some h) he hq K Q fun v w' E' le hok hrel hfr' => ?_
 refine hK _ _ E' le ⟨hok,put_tm le hs.tm (by rw [hs.size]; exact hd) hrel,by rw [put_defers]; exact ⟨hs.defers.1,hs.defers.2.mono le⟩,by rw [put_size]; exact hs.size⟩ hfr'
theorem if_wanted {n:Nat} {ops:Array Oper} {o:Oper} {K:Act->World->Prop} {Q:Exit->Act->World->Prop} (h:if Region.wanted o (yielded ops a.tmps) then o.wpIn C.F n C.P a w K Q else K (a.put o.dst undef) w) :
  if Region.wanted o (yielded ops a.tmps) then o.wpIn C.F n C.P a w K Q else (∀ f,o.about C.P w a.eval=some f->C.F.fn f)/\K (a.put o.dst undef) w:=by
 split at h
 ·rename_i hw; rw [if_pos hw]; exact h
 ·rename_i hw; rw [if_neg hw]; exact ⟨fun _ _=>trivial,h⟩
theorem RCtx.seq_sound {X:RCtx} (hP:X.P=C.P) (hE:X.E0=C.E0) (hT:Tab.ok C.P X.T) {ops:Array Oper} (hgd:∀ j,X.gd j=(ops[j]?).bind (·.dst)) (Q:Exit->Act->World->Prop) :
  ∀ (l:List Oper) (i:Nat) (s:RS) (es:List Eff) (E:Env) (a:Act) (w:World),X.effs l i s=some es->obls es->RSok C E X.nt s w a->(∀ j,X.nx + 8 * i<=j->Free E s.hp j) →
   (∀ E' a' w',E.le E'->RSok C E' X.nt (appAll s l es) w' a'->(∀ j,X.nx + 8 * (i + l.length)<=j->E'.blk j=none/\E'.hdr j=none)->Q .normal a' w')->wpListIn C.F 0 C.P ops Q l a w:=by
 intro l
 induction l with
 | nil =>
  intro i s es E a w he _ hs hfr hQ
  simp only [RCtx.effs,Option.some.injEq] at he
  subst he
  exact hQ E a w (Env.le.refl E) hs (fun j hj=>⟨(hfr j (by simpa using hj)).1,(hfr j (by simpa using hj)).2.1⟩)
 | cons o r ih =>
  intro i s es E a w he hq hs hfr hQ
  simp only [RCtx.effs] at he
  split at he
  ·rename_i e hev
   split at he
   ·rename_i hd
    cases e1:X.effs r (i + 1) (s.app o e) with
    | none=>rw [e1] at he; cases he
    | some es' =>
     rw [e1] at he
     cases he
     obtain ⟨hq1,hq2⟩:=hq
     refine wpListIn_step fun K hK => ?_
     refine if_wanted ?_
     refine RCtx.ev_step hP hE hT hgd hs (fun j h1 _=>hfr j h1) hev hd hq1 K Q fun a' w' E' le hs' hfr'=>hK a' w' ?_
     refine ih (i + 1) (s.app o e) es' E' a' w' e1 hq2 hs' (fun j hj => ?_) (fun E'' a'' w'' le'' hs'' hf''=>hQ E'' a'' w'' (le.trans le'') hs'' (fun j hj=>hf'' j (by simp only [List.length_cons] at hj; omega)))
     ·have hj0:=hfr j (by omega)
      have:=hfr' j (.inr (by omega)) hj0.2.2
      refine ⟨by rw [this.1]; exact hj0.1,by rw [this.2]; exact hj0.2.1,?_⟩
      cases h0:(s.app o e).hp j with
      | none=>rfl
      | some ob =>
       have ho:=hs'.heap.own j ob h0
       have hbl:E'.blk j=none:=by rw [this.1]; exact hj0.1
       have hhd:E'.hdr j=none:=by rw [this.2]; exact hj0.2.1
       cases ob with
       | cells t cs=>obtain ⟨k,us,hk,_⟩:=ho; rw [hbl] at hk; cases hk
       | fz t cs=>obtain ⟨k,us,hk,_⟩:=ho; rw [hbl] at hk; cases hk
       | vec t sz n f=>obtain ⟨hd',g,hh,_⟩:=ho; rw [hhd] at hh; cases hh
       | mp t q es=>obtain ⟨k,kt,et,hh,_⟩:=ho; rw [hhd] at hh; cases hh
       | vecx t sz n f j fj=>obtain ⟨hd',g,hh,_⟩:=ho; rw [hhd] at hh; cases hh
   ·cases he
  ·cases he
end
end Go.Ab
namespace Go.Ab
open Go Go.RowKit
def appSel (f:Nat->Bool):RS->List Oper->List Eff->Nat->RS
 | s,o :: r,e :: es,i=>appSel f (if f i then s.app o e else s) r es (i + 1)
 | s,_,_,_=>s
def keysOf (e:Eff):List Nat:=e.upd.map (·.1)
theorem putT_other {tm:Nat->AV} {dst:Option Tmp} {v:AV} {t:Nat} (h:dst ≠ some t):putT tm dst v t=tm t:=by
 cases dst with
 | none=>rfl
 | some d=>exact if_neg (fun e=>h (by rw [e]))
theorem putT_self {tm:Nat->AV} {dst:Option Tmp} {v:AV} {t:Nat} (h:dst=some t):putT tm dst v t=v:=by subst h; exact if_pos rfl
theorem upds_other:∀ (u:List (Nat × Option OB)) (H:Heap) (b:Nat),b ∉ u.map (·.1)->(H.upds u) b=H b:=by
 intro u
 induction u with
 | nil=>intro H b _; rfl
 | cons x u ih =>
  intro H b hb
  show (Heap.upds (H.put x.1 x.2) u) b=_
  rw [ih _ _ (fun h=>hb (List.mem_cons_of_mem _ h))]
  exact if_neg (fun e=>hb (by rw [e]; exact List.mem_cons_self))
theorem upds_same:∀ (u:List (Nat × Option OB)) (H H':Heap) (b:Nat),b ∈ u.map (·.1)->(H.upds u) b=(H'.upds u) b:=by
 intro u
 induction u with
 | nil=>intro H H' b hb; cases hb
 | cons x u ih =>
  intro H H' b hb
  show (Heap.upds (H.put x.1 x.2) u) b=(Heap.upds (H'.put x.1 x.2) u) b
  by_cases h:b ∈ u.map (·.1)
  ·exact ih _ _ b h
  ·rw [upds_other _ _ _ h,upds_other _ _ _ h]
   have e:b=x.1:=by
    cases hb with
    | head=>rfl
    | tail _ hb=>exact absurd hb h
   rw [e]
   unfold Heap.put
   rw [if_pos rfl,if_pos rfl]
theorem appSel_tm {f g:Nat->Bool} {t:Nat}:∀ (l:List Oper) (es:List Eff) (i:Nat) (s s':RS),s.tm t=s'.tm t->(∀ k o,l[k]? = some o->o.dst=some t->f (i + k)=g (i + k))->(appSel f s l es i).tm t=(appSel g s' l es i).tm t:=by
 intro l
 induction l with
 | nil=>intro es i s s' h _; cases es <;> exact h
 | cons o r ih =>
  intro es i s s' h hw
  cases es with
  | nil=>exact h
  | cons e es =>
   refine ih es (i + 1) _ _ ?_ (fun k o' hk hd=>by have:=hw (k + 1) o' (by simpa using hk) hd; rw [Nat.add_comm k 1,← Nat.add_assoc] at this; exact this)
   by_cases hd:o.dst=some t
   ·have:=hw 0 o rfl hd
    rw [Nat.add_zero] at this
    rw [this]
    cases g i with
    | true=>show putT _ _ _ t=putT _ _ _ t; rw [putT_self hd,putT_self hd]
    | false=>exact h
   ·have e1:∀ (b:Bool) (s:RS),(if b then s.app o e else s).tm t=s.tm t:=by
     intro b s; cases b
     ·rfl
     ·exact putT_other hd
    rw [e1,e1,h]
theorem appSel_hp {f g:Nat->Bool} {b:Nat}:∀ (l:List Oper) (es:List Eff) (i:Nat) (s s':RS),s.hp b=s'.hp b->(∀ k e,es[k]? = some e->b ∈ keysOf e->f (i + k)=g (i + k))->(appSel f s l es i).hp b=(appSel g s' l es i).hp b:=by
 intro l
 induction l with
 | nil=>intro es i s s' h _; cases es <;> exact h
 | cons o r ih =>
  intro es i s s' h hw
  cases es with
  | nil=>exact h
  | cons e es =>
   refine ih es (i + 1) _ _ ?_ (fun k o' hk hd=>by have:=hw (k + 1) o' (by simpa using hk) hd; rw [Nat.add_comm k 1,← Nat.add_assoc] at this; exact this)
   by_cases hd:b ∈ keysOf e
   ·have:=hw 0 e rfl hd
    rw [Nat.add_zero] at this
    rw [this]
    cases g i with
    | true=>exact upds_same _ _ _ _ hd
    | false=>exact h
   ·have e1:∀ (c:Bool) (s:RS),(if c then s.app o e else s).hp b=s.hp b:=by
     intro c s; cases c
     ·rfl
     ·exact upds_other _ _ _ hd
    rw [e1,e1,h]
theorem appSel_tm_last {f:Nat->Bool} {t:Nat}:∀ (l:List Oper) (es:List Eff) (i k:Nat) (s:RS) (o:Oper) (e:Eff),l[k]? = some o->es[k]? = some e->o.dst=some t->f (i + k)=true →
  (∀ j o',k < j->l[j]? = some o'->o'.dst=some t->f (i + j)=false)->(appSel f s l es i).tm t=e.res:=by
 intro l
 induction l with
 | nil=>intro es i k s o e h; simp at h
 | cons o' r ih =>
  intro es i k s o e ho he hd hf hl
  cases es with
  | nil=>simp at he
  | cons e' es =>
   cases k with
   | zero =>
    simp only [List.getElem?_cons_zero,Option.some.injEq] at ho he
    subst ho; subst he
    have hfi:f i=true:=hf
    show (appSel f (if f i then s.app o' e' else s) r es (i + 1)).tm t=_
    rw [hfi,if_pos rfl]
    rw [appSel_tm (f:=f) (g:=fun _=>false) r es (i + 1) _ (s.app o' e') rfl (fun k o2 hk hd2=>by
     have:=hl (k + 1) o2 (by omega) (by simpa using hk) hd2
     rw [Nat.add_comm k 1,← Nat.add_assoc] at this; exact this)]
    have nosel:∀ (r:List Oper) (es:List Eff) (i:Nat) (s:RS),appSel (fun _=>false) s r es i=s:=by
     intro r
     induction r with
     | nil=>intro es i s; cases es <;> rfl
     | cons o r ih=>intro es i s; cases es with | nil=>rfl | cons e es=>exact ih es (i + 1) s
    rw [nosel]
    exact putT_self hd
   | succ k =>
    refine ih es (i + 1) k _ o e (by simpa using ho) (by simpa using he) hd (by rw [Nat.add_assoc,Nat.add_comm 1 k]; exact hf) (fun j o2 hj ho2 hd2 => ?_)
    have:=hl (j + 1) o2 (by omega) (by simpa using ho2) hd2
    rw [Nat.add_assoc,Nat.add_comm 1 j]; exact this
theorem appSel_hp_last {f:Nat->Bool} {b:Nat} (H:Heap):∀ (l:List Oper) (es:List Eff) (i k:Nat) (s:RS) (e:Eff),k < l.length->es[k]? = some e->b ∈ keysOf e->f (i + k)=true →
  (∀ j e',k < j->es[j]? = some e'->b ∈ keysOf e'->f (i + j)=false)->(appSel f s l es i).hp b=(H.upds e.upd) b:=by
 intro l
 induction l with
 | nil=>intro es i k s e h; exact absurd h (by simp)
 | cons o' r ih =>
  intro es i k s e ho he hd hf hl
  cases es with
  | nil=>simp at he
  | cons e' es =>
   cases k with
   | zero =>
    simp only [List.getElem?_cons_zero,Option.some.injEq] at he
    subst he
    have hfi:f i=true:=hf
    show (appSel f (if f i then s.app o' e' else s) r es (i + 1)).hp b=_
    rw [hfi,if_pos rfl]
    rw [appSel_hp (f:=f) (g:=fun _=>false) r es (i + 1) _ (s.app o' e') rfl (fun k o2 hk hd2=>by
     have:=hl (k + 1) o2 (by omega) (by simpa using hk) hd2
     rw [Nat.add_comm k 1,← Nat.add_assoc] at this; exact this)]
    have nosel:∀ (r:List Oper) (es:List Eff) (i:Nat) (s:RS),appSel (fun _=>false) s r es i=s:=by
     intro r
     induction r with
     | nil=>intro es i s; cases es <;> rfl
     | cons o r ih=>intro es i s; cases es with | nil=>rfl | cons e es=>exact ih es (i + 1) s
    rw [nosel]
    exact upds_same _ _ _ _ hd
   | succ k =>
    refine ih es (i + 1) k _ e (by simpa using ho) (by simpa using he) hd (by rw [Nat.add_assoc,Nat.add_comm 1 k]; exact hf) (fun j o2 hj ho2 hd2 => ?_)
    have:=hl (j + 1) o2 (by omega) (by simpa using ho2) hd2
    rw [Nat.add_assoc,Nat.add_comm 1 j]; exact this
def mask (o:Oper) (acc:List Nat):Nat:=o.after.toList.foldl (fun s e=>if Region.binds .any e then s ||| 2 ^ e.on ||| acc.getD e.on 0 else s) 0
def ancs:List Oper->List Nat->List Nat
 | [],acc=>acc
 | o :: r,acc=>ancs r (acc ++ [mask o acc])
theorem mask_bit (acc:List Nat) (j:Nat):∀ (l:List Edge) (s:Nat),(l.foldl (fun s e=>if Region.binds .any e then s ||| 2 ^ e.on ||| acc.getD e.on 0 else s) s).testBit j=true →
  s.testBit j=true ∨ ∃ e ∈ l,Region.binds .any e=true/\(e.on=j ∨ (acc.getD e.on 0).testBit j=true):=by
 intro l
 induction l with
 | nil=>intro s h; exact .inl h
 | cons e l ih =>
  intro s h
  rcases ih _ h with h | ⟨e',he',h'⟩
  ·dsimp only at h
   split at h
   ·rename_i hb
    rw [Nat.testBit_or,Nat.testBit_or] at h
    simp only [Bool.or_eq_true] at h
    rcases h with (h | h) | h
    ·exact .inl h
    ·refine .inr ⟨e,List.mem_cons_self,hb,.inl ?_⟩
     rw [Nat.testBit_two_pow] at h
     simpa using h
    ·exact .inr ⟨e,List.mem_cons_self,hb,.inr h⟩
   ·exact .inl h
  ·exact .inr ⟨e',List.mem_cons_of_mem _ he',h'⟩
theorem ancs_get:∀ (l:List Oper) (acc:List Nat) (k:Nat),k < acc.length->(ancs l acc).getD k 0=acc.getD k 0:=by
 intro l
 induction l with
 | nil=>intro acc k _; rfl
 | cons o r ih =>
  intro acc k hk
  show (ancs r (acc ++ [mask o acc])).getD k 0=_
  rw [ih _ k (by rw [List.length_append]; omega)]
  simp only [List.getD_eq_getElem?_getD]
  rw [List.getElem?_append_left hk]
theorem ancs_bit:∀ (l:List Oper) (acc:List Nat) (k:Nat) (o:Oper) (j:Nat),l[k]? = some o->((ancs l acc).getD (acc.length + k) 0).testBit j=true->(∀ e ∈ o.after.toList,Region.binds .any e=true->e.on < acc.length + k) →
  ∃ e ∈ o.after.toList,Region.binds .any e=true/\(e.on=j ∨ ((ancs l acc).getD e.on 0).testBit j=true):=by
 intro l
 induction l with
 | nil=>intro acc k o j h; simp at h
 | cons o' r ih =>
  intro acc k o j ho hb hlt
  cases k with
  | zero =>
   simp only [List.getElem?_cons_zero,Option.some.injEq] at ho
   subst ho
   have hg:(ancs (o' :: r) acc).getD (acc.length + 0) 0=mask o' acc:=by
    show (ancs r (acc ++ [mask o' acc])).getD acc.length 0=_
    rw [ancs_get _ _ _ (by simp)]
    simp [List.getD_eq_getElem?_getD]
   rw [hg] at hb
   rcases mask_bit acc j _ _ hb with h | ⟨e,he,h1,h2⟩
   ·simp at h
   ·refine ⟨e,he,h1,?_⟩
    rcases h2 with h2 | h2
    ·exact .inl h2
    ·refine .inr ?_
     rw [ancs_get _ _ _ (by have:=hlt e he h1; omega)]
     exact h2
  | succ k =>
   have hl:(acc ++ [mask o' acc]).length + k=acc.length + (k + 1):=by simp; omega
   exact ih (acc ++ [mask o' acc]) k o j (by simpa using ho) (by rw [hl]; exact hb) (fun e he h=>by rw [hl]; exact hlt e he h)
def needsAll (gd:Nat->Option Tmp) (cs:Nat->Option CallSpec):Nat->RS->List Oper->List Eff->List (List Nat)
 | i,s,o :: r,e :: es=>needsC (cs i) (cutT (readsOf gd o) s.tm) o :: needsAll gd cs (i + 1) (s.app o e) r es
 | _,_,_,_=>[]
def meets (a b:List Nat):Bool:=a.any fun x=>b.contains x
def conf (gd:Nat->Option Tmp) (o p:Oper) (e f:Eff) (m n:List Nat):Bool :=
 (match o.dst with | some d=>(readsOf gd p).contains d || decide (p.dst=some d) | none=>false) || (match p.dst with | some d=>(readsOf gd o).contains d | none=>false) ||
 meets (keysOf e) (n ++ keysOf f) || meets m (keysOf f)
def nop : Oper := ⟨none, .ready 0, 0, "", #[], none⟩
def noEff:Eff:=⟨True,.any,[]⟩
def drawOK (gd:Nat->Option Tmp) (l:List Oper) (es:List Eff) (nds:List (List Nat)):Bool :=
 let M:=ancs l []
 (List.range l.length).all fun i =>
  ((l.getD i nop).after.toList.all fun e => !Region.binds .any e || decide (e.on < i)) &&
  (List.range i).all fun j => !conf gd (l.getD j nop) (l.getD i nop) (es.getD j noEff) (es.getD i noEff) (nds.getD j []) (nds.getD i []) || (M.getD i 0).testBit j
section
variable {C:Ctx}
theorem effs_get {X:RCtx}:∀ (l:List Oper) (i:Nat) (s:RS) (es:List Eff),X.effs l i s=some es->es.length=l.length ∧
  ∀ k o,l[k]? = some o -> ∃ e,es[k]? = some e/\X.ev (i + k) o (appSel (fun j=>decide (j < i + k)) s l es i)=some e/\dstOK X.nt o.dst=true ∧
   (needsAll X.gd X.cs i s l es)[k]? = some (needsC (X.cs (i + k)) (cutT (readsOf X.gd o) (appSel (fun j=>decide (j < i + k)) s l es i).tm) o):=by
 intro l
 induction l with
 | nil =>
  intro i s es h
  simp only [RCtx.effs,Option.some.injEq] at h
  subst h
  exact ⟨rfl,fun k o h=>by simp at h⟩
 | cons o r ih =>
  intro i s es h
  simp only [RCtx.effs] at h
  split at h
  ·rename_i e hev
   split at h
   ·rename_i hd
    cases e1:X.effs r (i + 1) (s.app o e) with
    | none=>rw [e1] at h; cases h
    | some es' =>
     rw [e1] at h
     cases h
     obtain ⟨hl,hk⟩:=ih (i + 1) _ es' e1
     refine ⟨by simp [hl],fun k o' ho => ?_⟩
     cases k with
     | zero =>
      simp only [List.getElem?_cons_zero,Option.some.injEq] at ho
      subst ho
      have nosel:∀ (f:Nat->Bool) (r:List Oper) (es:List Eff) (i:Nat) (s:RS),(∀ j,i<=j->f j=false)->appSel f s r es i=s:=by
       intro f r
       induction r with
       | nil=>intro es i s _; cases es <;> rfl
       | cons o r ih =>
        intro es i s hf
        cases es with
        | nil=>rfl
        | cons e es =>
         show appSel f (if f i then s.app o e else s) r es (i + 1)=s
         rw [hf i (Nat.le_refl _),if_neg (by simp)]
         exact ih es (i + 1) s (fun j hj=>hf j (by omega))
      have hpre:appSel (fun j=>decide (j < i + 0)) s (o :: r) (e :: es') i=s:=nosel _ _ _ _ _ (fun j hj=>by simp; omega)
      rw [hpre]
      exact ⟨e,rfl,hev,hd,rfl⟩
     | succ k =>
      obtain ⟨e2,h1,h2,h3,h4⟩:=hk k o' (by simpa using ho)
      have hpre:appSel (fun j=>decide (j < i + (k + 1))) s (o :: r) (e :: es') i=appSel (fun j=>decide (j < i + 1 + k)) (s.app o e) r es' (i + 1):=by
       show appSel _ (if decide (i < i + (k + 1)) then s.app o e else s) r es' (i + 1)=_
       rw [if_pos (by simp)]
       have:(fun j=>decide (j < i + (k + 1)))=(fun j=>decide (j < i + 1 + k)):=by funext j; congr 1; simp only [eq_iff_iff]; omega
       rw [this]
      rw [hpre]
      have hik:i + (k + 1)=i + 1 + k:=by omega
      rw [hik]
      exact ⟨e2,by simpa using h1,h2,h3,by simpa [needsAll] using h4⟩
   ·cases h
  ·cases h
theorem cutT_congr {l:List Nat} {tm tm':Nat->AV} (h:∀ t ∈ l,tm t=tm' t):cutT l tm=cutT l tm':=by
 funext t
 unfold cutT
 by_cases hc:l.contains t=true
 ·rw [if_pos hc,if_pos hc]; exact h t (by simpa using hc)
 ·rw [if_neg hc,if_neg hc]
theorem cutH_congr {l:List Nat} {H H':Heap} (h:∀ t ∈ l,H t=H' t):cutH l H=cutH l H':=by
 funext t
 unfold cutH
 by_cases hc:l.contains t=true
 ·rw [if_pos hc,if_pos hc]; exact h t (by simpa using hc)
 ·rw [if_neg hc,if_neg hc]
theorem meets_true {a b:List Nat} {x:Nat} (ha:x ∈ a) (hb:x ∈ b):meets a b=true:=by
 unfold meets
 rw [List.any_eq_true]
 exact ⟨x,ha,by simpa using hb⟩
theorem drawOK_spec {gd:Nat->Option Tmp} {l:List Oper} {es:List Eff} {nds:List (List Nat)} (h:drawOK gd l es nds=true) (i:Nat) (hi:i < l.length) :
  (∀ e ∈ (l.getD i nop).after.toList,Region.binds .any e=true->e.on < i) ∧
  ∀ j,j < i->conf gd (l.getD j nop) (l.getD i nop) (es.getD j noEff) (es.getD i noEff) (nds.getD j []) (nds.getD i [])=true->((ancs l []).getD i 0).testBit j=true:=by
 unfold drawOK at h
 simp only [List.all_eq_true,List.mem_range,Bool.and_eq_true,Bool.or_eq_true,Bool.not_eq_true',decide_eq_true_eq] at h
 obtain ⟨h1,h2⟩:=h i hi
 refine ⟨fun e he hb => ?_,fun j hj hc => ?_⟩
 ·rcases h1 e he with h | h
  ·rw [hb] at h; cases h
  ·exact h
 ·rcases h2 j hj with h | h
  ·rw [hc] at h; cases h
  ·exact h
def Closed (l:List Oper) (f:Nat->Bool):Prop := ∀ i o,l[i]? = some o->f i=true -> ∀ e ∈ o.after.toList,Region.binds .any e=true->f e.on=true
theorem closed_anc {gd:Nat->Option Tmp} {l:List Oper} {es:List Eff} {nds:List (List Nat)} (h:drawOK gd l es nds=true) {f:Nat->Bool} (hc:Closed l f):∀ (i:Nat) (o:Oper) (j:Nat),l[i]? = some o →
  (∀ e ∈ o.after.toList,Region.binds .any e=true->f e.on=true)->((ancs l []).getD i 0).testBit j=true->f j=true:=by
 intro i
 induction i using Nat.strongRecOn with
 | _ i ih =>
  intro o j ho hr hb
  have hi:i < l.length:=(List.getElem?_eq_some_iff.1 ho).1
  have hgi:l.getD i nop=o:=by rw [List.getD_eq_getElem?_getD,ho]; rfl
  have hlt:=(drawOK_spec h i hi).1
  rw [hgi] at hlt
  obtain ⟨e,he,hbe,hor⟩:=ancs_bit l [] i o j ho (by simpa using hb) (fun e he hb=>by simpa using hlt e he hb)
  rcases hor with hor | hor
  ·rw [← hor]; exact hr e he hbe
  ·have hle:=hlt e he hbe
   have ho':l[e.on]? = some l[e.on]:=List.getElem?_eq_getElem (by omega)
   exact ih e.on hle _ j ho' (fun e' he' hb'=>hc e.on _ ho' (hr e he hbe) e' he' hb') hor
theorem mem_readsOf_conf {gd:Nat->Option Tmp} {o p:Oper} {e f:Eff} {m n:List Nat} {t:Nat} (hd:o.dst=some t) (hr:t ∈ readsOf gd p ∨ p.dst=some t):conf gd o p e f m n=true:=by
 unfold conf
 rw [hd]
 rcases hr with hr | hr
 ·have:(readsOf gd p).contains t=true:=by simpa using hr
  simp only [this,Bool.true_or]
 ·rw [hr]; simp
theorem mem_readsOf_conf' {gd:Nat->Option Tmp} {o p:Oper} {e f:Eff} {m n:List Nat} {t:Nat} (hd:p.dst=some t) (hr:t ∈ readsOf gd o):conf gd o p e f m n=true:=by
 have hc:(readsOf gd o).contains t=true:=by simpa using hr
 simp only [conf,hd,hc,Bool.or_true,Bool.true_or]
theorem keys_conf {gd:Nat->Option Tmp} {o p:Oper} {e f:Eff} {m n:List Nat} {b:Nat} (hd:b ∈ keysOf e) (hr:b ∈ n ∨ b ∈ keysOf f):conf gd o p e f m n=true:=by
 have:meets (keysOf e) (n ++ keysOf f)=true:=meets_true hd (List.mem_append.2 hr)
 simp only [conf,this,Bool.or_true,Bool.true_or]
theorem keys_conf' {gd:Nat->Option Tmp} {o p:Oper} {e f:Eff} {m n:List Nat} {b:Nat} (hd:b ∈ keysOf f) (hr:b ∈ m):conf gd o p e f m n=true:=by
 have:meets m (keysOf f)=true:=meets_true hr hd
 simp only [conf,this,Bool.or_true]
theorem obls_get:∀ {es:List Eff},obls es -> ∀ (k:Nat) (e:Eff),es[k]? = some e->e.obl:=by
 intro es
 induction es with
 | nil=>intro _ k e h; simp at h
 | cons f es ih =>
  intro h k e he
  cases k with
  | zero=>simp only [List.getElem?_cons_zero,Option.some.injEq] at he; subst he; exact h.1
  | succ k=>exact ih h.2 k e (by simpa using he)
theorem appSel_all:∀ (l:List Oper) (es:List Eff) (i:Nat) (s:RS) (f:Nat->Bool),(∀ k,k < l.length->f (i + k)=true)->appSel f s l es i=appAll s l es:=by
 intro l
 induction l with
 | nil=>intro es i s f _; cases es <;> rfl
 | cons o r ih =>
  intro es i s f hf
  cases es with
  | nil=>rfl
  | cons e es =>
   show appSel f (if f i then s.app o e else s) r es (i + 1)=appAll (s.app o e) r es
   rw [show f i=true from hf 0 (by simp),if_pos rfl]
   exact ih es (i + 1) _ f (fun k hk=>by have:=hf (k + 1) (by simpa using hk); rw [Nat.add_comm k 1,← Nat.add_assoc] at this; exact this)
theorem RCtx.draw_sound {X:RCtx} (hP:X.P=C.P) (hE:X.E0=C.E0) (hT:Tab.ok C.P X.T) {l:List Oper} (hgd:∀ j,X.gd j=(l.toArray[j]?).bind (·.dst)) (Q:Exit->Act->World->Prop) {s:RS} {es:List Eff} (he:X.effs l 0 s=some es) (hq:obls es)
  (hd:drawOK X.gd l es (needsAll X.gd X.cs 0 s l es)=true)
  (hQ:∀ E' a' w',RSok C E' X.nt (appAll s l es) w' a'->(∀ j,X.nx + 8 * l.length<=j->E'.blk j=none/\E'.hdr j=none)->Q .normal a' w') :
  ∀ (fuel:Nat) (listed:Array Bool) (E:Env) (a:Act) (w:World),listed.size=l.length->fuel=((List.range l.length).filter fun i => !listed.getD i false).length->Closed l (fun i=>listed.getD i false) →
   RSok C E X.nt (appSel (fun i=>listed.getD i false) s l es 0) w a->(∀ j,X.nx<=j->(∀ i,i < l.length->listed.getD i false=true -> ¬ (X.nx + 8 * i<=j/\j < X.nx + 8 * i + 8))->E.blk j=none/\E.hdr j=none) →
   wpAnyIn C.F 0 C.P .any l.toArray Q fuel listed a w:=by
 obtain ⟨hlen,hget⟩:=effs_get l 0 s es he
 -- an operation that is ready
 have hready:∀ (listed:Array Bool) (i:Nat),i ∈ Region.ready .any l.toArray listed -> ∃ o,l[i]? = some o/\listed.getD i true=false /\ ∀ e ∈ o.after.toList,Region.binds .any e=true->listed.getD e.on false=true:=by
  intro listed i hi
  simp only [Region.ready,List.mem_filter,List.mem_range,Bool.and_eq_true,Bool.not_eq_true'] at hi
  obtain ⟨h1,h2,h3⟩:=hi
  have hi':i < l.length:=by simpa using h1
  have ho:l[i]? = some l[i]:=List.getElem?_eq_getElem hi'
  refine ⟨l[i],ho,h2,fun e hem hb => ?_⟩
  have ho2:l.toArray[i]? = some l[i]:=by rw [List.getElem?_toArray]; exact ho
  rw [ho2] at h3
  simp only [Option.map_some,Option.getD_some,Array.all_eq_true_iff_forall_mem] at h3
  have:=h3 e (by simpa using hem)
  simp only [hb,Bool.not_true,Bool.false_or] at this
  exact this
 -- where none is ready all are listed
 have hnone:∀ (listed:Array Bool),listed.size=l.length->Region.ready .any l.toArray listed = [] -> ∀ i,i < l.length->listed.getD i false=true:=by
  intro listed hs hr i
  induction i using Nat.strongRecOn with
  | _ i ih =>
   intro hi
   cases hli:listed.getD i false with
   | true=>rfl
   | false =>
    exfalso
    have hmem:i ∈ Region.ready .any l.toArray listed:=by
     simp only [Region.ready,List.mem_filter,List.mem_range,Bool.and_eq_true,Bool.not_eq_true']
     refine ⟨by simpa using hi,?_,?_⟩
     ·rw [Array.getD_eq_getD_getElem?,Array.getElem?_eq_getElem (by omega)] at hli ⊢
      exact hli
     ·have ho2:l.toArray[i]? = some l[i]:=by simp [hi]
      rw [ho2]
      simp only [Option.map_some,Option.getD_some,Array.all_eq_true_iff_forall_mem]
      intro e hem
      cases hb:Region.binds .any e with
      | false=>rfl
      | true =>
       have hlt:=(drawOK_spec hd i hi).1 e (by
        rw [List.getD_eq_getElem?_getD,List.getElem?_eq_getElem hi]
        simpa using hem) hb
       simp [ih e.on hlt (by omega)]
    rw [hr] at hmem
    cases hmem
 intro fuel
 induction fuel with
 | zero =>
  intro listed E a w hsz hfu hcl hok hfr
  have hall:∀ i,i < l.length->listed.getD i false=true:=by
   intro i hi
   have hnil:(List.range l.length).filter (fun i => !listed.getD i false) = []:=List.eq_nil_of_length_eq_zero hfu.symm
   cases h:listed.getD i false with
   | true=>rfl
   | false =>
    have:i ∈ (List.range l.length).filter (fun i => !listed.getD i false):=List.mem_filter.2 ⟨List.mem_range.2 hi,by simp [h]⟩
    rw [hnil] at this
    cases this
  refine ⟨?_,?_⟩
  ·cases hr:Region.ready .any l.toArray listed with
   | nil=>rfl
   | cons i r =>
    obtain ⟨o,ho,h1,_⟩:=hready listed i (by rw [hr]; exact List.mem_cons_self)
    have hi:i < l.length:=(List.getElem?_eq_some_iff.1 ho).1
    have:=hall i hi
    rw [Array.getD_eq_getD_getElem?,Array.getElem?_eq_getElem (by omega)] at this h1
    simp only [Option.getD_some] at this h1
    rw [h1] at this
    cases this
  ·rw [appSel_all l es 0 s _ (fun k hk=>by simpa using hall k hk)] at hok
   exact hQ E a w hok (fun j hj=>hfr j (by omega) (fun i hi _ h=>by omega))
 | succ fuel ih =>
  intro listed E a w hsz hfu hcl hok hfr
  refine ⟨fun hr => ?_,fun i hi => ?_⟩
  ·have hall:=hnone listed hsz hr
   rw [appSel_all l es 0 s _ (fun k hk=>by simpa using hall k hk)] at hok
   exact hQ E a w hok (fun j hj=>hfr j (by omega) (fun i hi _ h=>by omega))
  ·obtain ⟨o,ho,hli,hed⟩:=hready listed i hi
   have hil:i < l.length:=(List.getElem?_eq_some_iff.1 ho).1
   have hli':listed.getD i false=false:=by
    rw [Array.getD_eq_getD_getElem?,Array.getElem?_eq_getElem (by omega)] at hli ⊢
    exact hli
   obtain ⟨e,hei,hev,hdst,hnd⟩:=hget i o ho
   rw [Nat.zero_add] at hev hnd
   have hgo:l.getD i nop=o:=by rw [List.getD_eq_getElem?_getD,ho]; rfl
   have hge:es.getD i noEff=e:=by rw [List.getD_eq_getElem?_getD,hei]; rfl
   have hgn:(needsAll X.gd X.cs 0 s l es).getD i []=needsC (X.cs i) (cutT (readsOf X.gd o) (appSel (fun j=>decide (j < i)) s l es 0).tm) o:=by rw [List.getD_eq_getElem?_getD,hnd]; rfl
   -- a conflict orders the two
   have hlow:∀ j,j < i->conf X.gd (l.getD j nop) o (es.getD j noEff) e ((needsAll X.gd X.cs 0 s l es).getD j []) (needsC (X.cs i) (cutT (readsOf X.gd o) (appSel (fun j=>decide (j < i)) s l es 0).tm) o)=true->listed.getD j false=true:=by
    intro j hj hc
    have:=(drawOK_spec hd i hil).2 j hj (by rw [hgo,hge,hgn]; exact hc)
    exact closed_anc hd hcl i o j ho hed this
   have hhigh:∀ j o',i < j->l[j]? = some o'->conf X.gd o o' e (es.getD j noEff) (needsC (X.cs i) (cutT (readsOf X.gd o) (appSel (fun j=>decide (j < i)) s l es 0).tm) o) ((needsAll X.gd X.cs 0 s l es).getD j [])=true->listed.getD j false=false:=by
    intro j o' hj ho' hc
    have hjl:j < l.length:=(List.getElem?_eq_some_iff.1 ho').1
    have hgo':l.getD j nop=o':=by rw [List.getD_eq_getElem?_getD,ho']; rfl
    have hb:=(drawOK_spec hd j hjl).2 i hj (by rw [hgo,hge,hgn,hgo']; exact hc)
    cases hlj:listed.getD j false with
    | false=>rfl
    | true =>
     have:=closed_anc hd hcl j o' i ho' (fun e' he' hb'=>hcl j o' ho' hlj e' he' hb') hb
     rw [hli'] at this
     cases this
   -- the evaluation at the state that is there
   have htm:cutT (readsOf X.gd o) (appSel (fun i=>listed.getD i false) s l es 0).tm=cutT (readsOf X.gd o) (appSel (fun j=>decide (j < i)) s l es 0).tm:=by
    refine cutT_congr fun t ht=>appSel_tm l es 0 s s rfl fun k o' hk hdk => ?_
    rw [Nat.zero_add]
    have hgk:l.getD k nop=o':=by rw [List.getD_eq_getElem?_getD,hk]; rfl
    rcases Nat.lt_trichotomy k i with h | h | h
    ·rw [hlow k h (by rw [hgk]; exact mem_readsOf_conf hdk (.inl ht))]; simp [h]
    ·rw [h,hli']; simp
    ·rw [hhigh k o' h hk (mem_readsOf_conf' hdk ht)]; simp; omega
   have hhp:cutH (needsC (X.cs i) (cutT (readsOf X.gd o) (appSel (fun j=>decide (j < i)) s l es 0).tm) o) (appSel (fun i=>listed.getD i false) s l es 0).hp=cutH (needsC (X.cs i) (cutT (readsOf X.gd o) (appSel (fun j=>decide (j < i)) s l es 0).tm) o) (appSel (fun j=>decide (j < i)) s l es 0).hp:=by
    refine cutH_congr fun b hb=>appSel_hp l es 0 s s rfl fun k e' hk hdk => ?_
    rw [Nat.zero_add]
    have hkl:k < l.length:=by rw [← hlen]; exact (List.getElem?_eq_some_iff.1 hk).1
    have ho':l[k]? = some l[k]:=List.getElem?_eq_getElem hkl
    have hgk:es.getD k noEff=e':=by rw [List.getD_eq_getElem?_getD,hk]; rfl
    rcases Nat.lt_trichotomy k i with h | h | h
    ·rw [hlow k h (by rw [hgk]; exact keys_conf hdk (.inl hb))]; simp [h]
    ·rw [h,hli']; simp
    ·rw [hhigh k _ h ho' (by rw [hgk]; exact keys_conf' hdk hb)]; simp; omega
   have hev':X.ev i o (appSel (fun i=>listed.getD i false) s l es 0)=some e:=by
    unfold RCtx.ev at hev ⊢
    simp only [htm,hhp]
    exact hev
   -- what comes of it
   let listed':=listed.setIfInBounds i true
   have hget':∀ j,listed'.getD j false=if j=i then true else listed.getD j false:=by
    intro j
    by_cases e:j=i
    ·rw [if_pos e,e]
     simp [listed',Array.getD_eq_getD_getElem?,hsz,hil]
    ·rw [if_neg e]
     simp only [listed',Array.getD_eq_getD_getElem?]
     rw [Array.getElem?_setIfInBounds_ne (fun h=>e h.symm)]
   have happ:(appSel (fun i=>listed.getD i false) s l es 0).app o e=appSel (fun i=>listed'.getD i false) s l es 0:=by
    have h1:((appSel (fun i=>listed.getD i false) s l es 0).app o e).tm=(appSel (fun i=>listed'.getD i false) s l es 0).tm:=by
     funext t
     show putT _ o.dst e.res t=_
     by_cases hdt:o.dst=some t
     ·rw [putT_self hdt]
      refine (appSel_tm_last l es 0 i s o e ho hei hdt (by rw [Nat.zero_add,hget',if_pos rfl]) (fun j o' hj ho' hdj => ?_)).symm
      rw [Nat.zero_add,hget',if_neg (by omega)]
      exact hhigh j o' hj ho' (mem_readsOf_conf hdt (.inr hdj))
     ·rw [putT_other hdt]
      refine appSel_tm l es 0 s s rfl fun k o' hk hdk => ?_
      rw [Nat.zero_add,hget']
      by_cases e':k=i
      ·rw [e',ho] at hk; cases hk; exact absurd hdk hdt
      ·rw [if_neg e']
    have h2:((appSel (fun i=>listed.getD i false) s l es 0).app o e).hp=(appSel (fun i=>listed'.getD i false) s l es 0).hp:=by
     funext b
     show (Heap.upds _ e.upd) b=_
     by_cases hdb:b ∈ keysOf e
     ·refine (appSel_hp_last _ l es 0 i s e hil hei hdb (by rw [Nat.zero_add,hget',if_pos rfl]) (fun j e' hj he' hdj => ?_)).symm
      rw [Nat.zero_add,hget',if_neg (by omega)]
      have hjl:j < l.length:=by rw [← hlen]; exact (List.getElem?_eq_some_iff.1 he').1
      have hgj:es.getD j noEff=e':=by rw [List.getD_eq_getElem?_getD,he']; rfl
      exact hhigh j _ hj (List.getElem?_eq_getElem hjl) (by rw [hgj]; exact keys_conf hdb (.inr hdj))
     ·rw [upds_other _ _ _ hdb]
      refine appSel_hp l es 0 s s rfl fun k e' hk hdk => ?_
      rw [Nat.zero_add,hget']
      by_cases e2:k=i
      ·rw [e2,hei] at hk; cases hk; exact absurd hdk hdb
      ·rw [if_neg e2]
    show RS.mk _ _=_
    cases hR:appSel (fun i=>listed'.getD i false) s l es 0
    rw [hR] at h1 h2
    exact congr (congrArg RS.mk h1) h2
   have hoi:l.toArray[i]? = some o:=by simpa using ho
   have hfri:∀ j,X.nx + 8 * i<=j->j < X.nx + 8 * i + 8->Free E (appSel (fun i=>listed.getD i false) s l es 0).hp j:=by
    intro j h1 h2
    have hbh:=hfr j (by omega) (fun k hk hlk h=>by
     have:k=i:=by omega
     rw [this,hli'] at hlk
     cases hlk)
    refine ⟨hbh.1,hbh.2,?_⟩
    cases h0:(appSel (fun i=>listed.getD i false) s l es 0).hp j with
    | none=>rfl
    | some ob =>
     have hown:=hok.heap.own j ob h0
     cases ob with
     | cells t cs=>obtain ⟨k,us,hk,_⟩:=hown; rw [hbh.1] at hk; cases hk
     | fz t cs=>obtain ⟨k,us,hk,_⟩:=hown; rw [hbh.1] at hk; cases hk
     | vec t sz n f=>obtain ⟨hd',g,hh,_⟩:=hown; rw [hbh.2] at hh; cases hh
     | mp t q es=>obtain ⟨k,kt,et,hh,_⟩:=hown; rw [hbh.2] at hh; cases hh
     | vecx t sz n f j fj=>obtain ⟨hd',g,hh,_⟩:=hown; rw [hbh.2] at hh; cases hh
   have hstep:=RCtx.ev_step (ops:=l.toArray) hP hE hT hgd hok hfri hev' hdst (obls_get hq i e hei) (wpAnyIn C.F 0 C.P .any l.toArray Q fuel listed') Q (fun a' w' E' le hok' hfr'=>by
    rw [happ] at hok'
    refine ih listed' E' a' w' (by simp [listed',hsz]) ?_ ?_ hok' ?_
    ·have hcount:∀ (m:Nat) (f g:Nat->Bool),i < m->f i=true->g i=false->(∀ j,j ≠ i->f j=g j)->((List.range m).filter f).length=((List.range m).filter g).length + 1:=by
      intro m f g
      induction m with
      | zero=>intro h; omega
      | succ m ihm =>
       intro hm hf hg hfg
       rw [List.range_succ,List.filter_append,List.filter_append,List.length_append,List.length_append]
       by_cases e':i=m
       ·subst e'
        have:(List.range i).filter f=(List.range i).filter g:=List.filter_congr fun j hj=>hfg j (by have:=List.mem_range.1 hj; omega)
        rw [this]
        simp [hf,hg]
       ·rw [ihm (by omega) hf hg hfg]
        have:f m=g m:=hfg m (fun h=>e' h.symm)
        simp only [List.filter_cons,List.filter_nil,this]
        omega
     have:=hcount l.length (fun i => !listed.getD i false) (fun i => !listed'.getD i false) hil (by simp [hli']) (by simp [hget']) (fun j hj=>by simp [hget',hj])
     omega
    ·intro j oj hoj hlj e' he' hb'
     replace hlj:listed'.getD j false=true:=hlj
     show listed'.getD e'.on false=true
     rw [hget'] at hlj ⊢
     by_cases ej:j=i
     ·rw [ej,ho] at hoj
      cases hoj
      have:=hed e' he' hb'
      split
      ·rfl
      ·exact this
     ·rw [if_neg ej] at hlj
      have:=hcl j oj hoj hlj e' he' hb'
      split
      ·rfl
      ·exact this
    ·intro j hj hno
     have h0:=hfr j hj (fun k hk hlk=>hno k hk (by
      rw [hget']
      split
      ·rfl
      ·exact hlk))
     have hni:=hno i hil (by rw [hget',if_pos rfl])
     have hH:(appSel (fun i=>listed.getD i false) s l es 0).hp j=none:=by
      cases h1:(appSel (fun i=>listed.getD i false) s l es 0).hp j with
      | none=>rfl
      | some ob =>
       have hown:=hok.heap.own j ob h1
       cases ob with
       | cells t cs=>obtain ⟨k,us,hk,_⟩:=hown; rw [h0.1] at hk; cases hk
       | fz t cs=>obtain ⟨k,us,hk,_⟩:=hown; rw [h0.1] at hk; cases hk
       | vec t sz n f=>obtain ⟨hd',g,hh,_⟩:=hown; rw [h0.2] at hh; cases hh
       | mp t q es=>obtain ⟨k,kt,et,hh,_⟩:=hown; rw [h0.2] at hh; cases hh
       | vecx t sz n f j fj=>obtain ⟨hd',g,hh,_⟩:=hown; rw [h0.2] at hh; cases hh
     have:=hfr' j (by omega) hH
     exact ⟨by rw [this.1]; exact h0.1,by rw [this.2]; exact h0.2⟩)
   show wpOpIn C.F 0 C.P l.toArray Q i _ a w
   unfold wpOpIn
   rw [hoi]
   simp only
   split
   ·rename_i hw
    rw [if_pos hw] at hstep
    exact hstep
   ·rename_i hw
    rw [if_neg hw] at hstep
    exact ⟨fun _ _=>trivial,hstep⟩
end
end Go.Ab
namespace Go.Ab
open Go Go.RowKit
structure ASt where
 tm:List (Nat × AV)
 hp:List (Nat × OB)
 nx:Nat
def look:List (Nat × AV)->Nat->AV
 | [],_ => .any
 | p :: r,t=>if p.1=t then p.2 else look r t
inductive AX where
 | normal
 | ret
 | exit (id:Nat)
def AX.toExit:AX->Exit
 | .normal => .normal
 | .ret => .ret
 | .exit id => .exit id
structure Sat (C:Ctx) (E:Env) (nt:Nat) (st:ASt) (w:World) (a:Act):Prop where
 ok:RSok C E nt ⟨look st.tm,Heap.of st.hp⟩ w a
 fresh:∀ j,st.nx<=j->E.blk j=none/\E.hdr j=none
def SWP (C:Ctx) (nt:Nat) (c:Code) (K:AX->ASt->Prop) (st:ASt):Prop :=
 ∀ E w a,Sat C E nt st w a->c.wpIn C.F 0 C.P (fun e a' w' => ∃ x E' st',e=x.toExit/\Sat C E' nt st' w' a'/\K x st') a w
section
variable {C:Ctx} {nt:Nat} {K:AX->ASt->Prop} {st:ASt}
theorem swp_mono {c:Code} {K':AX->ASt->Prop} (h:SWP C nt c K st) (hk:∀ x st,K x st->K' x st):SWP C nt c K' st :=
 fun E w a hs=>wpIn_mono (h E w a hs) fun _ _ _ ⟨x,E',st',he,hs',hk'⟩=>⟨x,E',st',he,hs',hk x st' hk'⟩
theorem swp_skip (h:K .normal st):SWP C nt .skip K st:=fun E _ _ hs=>wpIn_skip ⟨.normal,E,st,rfl,hs,h⟩
theorem swp_ret (h:K .ret st):SWP C nt .ret K st:=fun E _ _ hs=>wpIn_ret ⟨.ret,E,st,rfl,hs,h⟩
theorem swp_exit {id:Nat} (h:K (.exit id) st):SWP C nt (.exit id) K st:=fun E _ _ hs=>wpIn_exit ⟨.exit id,E,st,rfl,hs,h⟩
def seqK (C:Ctx) (nt:Nat) (y:Code) (K:AX->ASt->Prop):AX->ASt->Prop
 | .normal,st=>SWP C nt y K st
 | x,st=>K x st
theorem swp_seq {x y:Code} (h:SWP C nt x (seqK C nt y K) st):SWP C nt (.seq x y) K st:=by
 intro E w a hs
 refine wpIn_seq (wpIn_mono (h E w a hs) ?_)
 rintro e a' w' ⟨x',E',st',rfl,hs',hk⟩
 cases x' with
 | normal=>exact hk E' w' a' hs'
 | ret=>exact ⟨.ret,E',st',rfl,hs',hk⟩
 | exit id=>exact ⟨.exit id,E',st',rfl,hs',hk⟩
def blkK (id:Nat) (K:AX->ASt->Prop):AX->ASt->Prop
 | .exit i,st=>if i=id then K .normal st else K (.exit i) st
 | x,st=>K x st
theorem swp_block {id:Nat} {c:Code} (h:SWP C nt c (blkK id K) st):SWP C nt (.block id c) K st:=by
 intro E w a hs
 refine wpIn_block (wpIn_mono (h E w a hs) ?_)
 rintro e a' w' ⟨x',E',st',rfl,hs',hk⟩
 cases x' with
 | normal=>exact ⟨.normal,E',st',rfl,hs',hk⟩
 | ret=>exact ⟨.ret,E',st',rfl,hs',hk⟩
 | exit i =>
  by_cases e:i=id
  ·subst e
   have hk':K .normal st':=by simpa [blkK] using hk
   show Exit.inBlock i _ (.exit i) a' w'
   unfold Exit.inBlock
   simp only [if_true]
   exact ⟨.normal,E',st',rfl,hs',hk'⟩
  ·have hk':K (.exit i) st':=by simpa [blkK,e] using hk
   show Exit.inBlock id _ (.exit i) a' w'
   unfold Exit.inBlock
   simp only [e,if_false]
   exact ⟨.exit i,E',st',rfl,hs',hk'⟩
theorem swp_cond {c:Operand} {x y:Code} (b:Bool) (hc:opAV (look st.tm) c = .lit (.bool b)) (h1:b=true->SWP C nt x K st) (h2:b=false->SWP C nt y K st):SWP C nt (.cond c x y) K st:=by
 intro E w a hs
 have hr:=opAV_rel hs.ok.tm c
 simp only at hr
 rw [hc] at hr
 have he:a.eval c = .bool b:=by generalize a.eval c=u at hr; cases hr; rfl
 refine wpIn_cond he ?_
 cases b with
 | true=>exact h1 rfl E w a hs
 | false=>exact h2 rfl E w a hs
def Ent (C:Ctx) (nt:Nat) (st st2:ASt):Prop := ∀ E w a,Sat C E nt st w a -> ∃ E',Sat C E' nt st2 w a
theorem Ent.refl:Ent C nt st st:=fun E _ _ h=>⟨E,h⟩
theorem Ent.trans {s1 s2 s3:ASt} (h:Ent C nt s1 s2) (k:Ent C nt s2 s3):Ent C nt s1 s3:=fun E w a hs=>let ⟨E',h'⟩:=h E w a hs; k E' w a h'
theorem swp_ent {c:Code} {st2:ASt} (h:Ent C nt st st2) (h2:SWP C nt c K st2):SWP C nt c K st:=fun E w a hs=>let ⟨E',hs'⟩:=h E w a hs; h2 E' w a hs'
def loopK (C:Ctx) (nt:Nat) {X:Type} (S:X->ASt) (I:X->Prop) (μ:X->Nat) (x:X) (K:AX->ASt->Prop):AX->ASt->Prop
 | .normal,st => ∃ x',Ent C nt st (S x')/\I x'/\μ x' < μ x
 | e,st=>K e st
theorem swp_loop {c:Code} {X:Type} (S:X->ASt) (I:X->Prop) (μ:X->Nat) (x0:X) (h0:Ent C nt st (S x0)) (hI:I x0) (hb:∀ x,I x->SWP C nt c (loopK C nt S I μ x K) (S x)):SWP C nt (.loop c) K st:=by
 intro E w a hs
 obtain ⟨E0,hs0⟩:=h0 E w a hs
 refine wpIn_loop_ghost (fun n a w => ∃ x E,μ x=n/\I x/\Sat C E nt (S x) w a) (μ x0) ⟨x0,E0,rfl,hI,hs0⟩ ?_
 rintro n a w ⟨x,E,rfl,hx,hs⟩
 refine wpIn_mono (hb x hx E w a hs) ?_
 rintro e a' w' ⟨x',E',st',rfl,hs',hk⟩
 cases x' with
 | normal =>
  obtain ⟨x2,hent,hI2,hlt⟩:=hk
  obtain ⟨E2,hs2⟩:=hent E' w' a' hs'
  exact ⟨μ x2,hlt,x2,E2,rfl,hI2,hs2⟩
 | ret=>exact ⟨.ret,E',st',rfl,hs',hk⟩
 | exit i=>exact ⟨.exit i,E',st',rfl,hs',hk⟩
def gdOf (l:List Oper):Nat->Option Tmp:=fun j=>(l[j]?).bind (·.dst)
def csOf:List (Nat × CallSpec)->Nat->Option CallSpec
 | [],_=>none
 | p :: r,i=>if p.1=i then some p.2 else csOf r i
def keepH (H:Heap):List Nat->List (Nat × OB)
 | []=>[]
 | b :: r=>match H b with | some ob=>(b,ob) :: keepH H r | none=>keepH H r
def regRun (P:Program) (E0:Env) (T:Tab) (nt:Nat) (l:List Oper) (draw:Bool) (cs:List (Nat × CallSpec)) (kt kh:List Nat) (st:ASt):Option (Prop × ASt) :=
 let X:RCtx:=⟨P,E0,T,nt,gdOf l,st.nx,csOf cs⟩
 let s:RS:=⟨look st.tm,Heap.of st.hp⟩
 match X.effs l 0 s with
 | some es =>
  if !draw || drawOK X.gd l es (needsAll X.gd X.cs 0 s l es) then
   let s':=appAll s l es
   some (obls es,⟨kt.map fun t=>(t,s'.tm t),keepH s'.hp kh,st.nx + 8 * l.length⟩)
  else none
 | none=>none
theorem look_map {E:Env} {tm:Nat->AV} {a:Act} (h:∀ t,Rel E true (tm t) (a.tmps.getD t undef)):∀ (kt:List Nat) (t:Nat),Rel E true (look (kt.map fun t=>(t,tm t)) t) (a.tmps.getD t undef):=by
 intro kt
 induction kt with
 | nil=>intro t; exact .any _
 | cons k r ih =>
  intro t
  simp only [List.map_cons,look]
  split
  ·rename_i e; subst e; exact h k
  ·exact ih t
theorem keepH_of {H:Heap}:∀ (kh:List Nat) (i:Nat) (ob:OB),Heap.of (keepH H kh) i=some ob->H i=some ob:=by
 intro kh
 induction kh with
 | nil=>intro i ob h; cases h
 | cons b r ih =>
  intro i ob h
  simp only [keepH] at h
  split at h
  ·rename_i ob' e
   rw [Heap.of_cons] at h
   split at h
   ·rename_i e'; subst e'; cases h; exact e
   ·exact ih i ob h
  ·exact ih i ob h
theorem swp_region {T:Tab} (hT:Tab.ok C.P T) (hm:C.P.follows .mixedOrders=true) {id:Nat} {l:List Oper} {draw:Bool} {cs:List (Nat × CallSpec)} {kt kh:List Nat} {q:Prop} {st':ASt}
  (h:regRun C.P C.E0 T nt l draw cs kt kh st=some (q,st')) (hq:q) (hk:K .normal st'):SWP C nt (.region id l.toArray draw) K st:=by
 intro E w a hs
 unfold regRun at h
 simp only at h
 split at h
 ·rename_i es he
  split at h
  ·rename_i hd
   cases h
   let X:RCtx:=⟨C.P,C.E0,T,nt,gdOf l,st.nx,csOf cs⟩
   have hgd:∀ j,X.gd j=(l.toArray[j]?).bind (·.dst):=fun j=>by simp [X,gdOf]
   have fin:∀ E' a' w',RSok C E' nt (appAll ⟨look st.tm,Heap.of st.hp⟩ l es) w' a'->(∀ j,st.nx + 8 * l.length<=j->E'.blk j=none/\E'.hdr j=none) →
     ∃ x E'' st'',(Exit.normal=x.toExit)/\Sat C E'' nt st'' w' a'/\K x st'':=by
    intro E' a' w' hok hfr
    exact ⟨.normal,E',_,rfl,⟨⟨hok.heap.drop (fun i ob hi=>keepH_of kh i ob hi),look_map hok.tm kt,hok.defers,hok.size⟩,hfr⟩,hk⟩
   have hfree:∀ j,st.nx<=j->Free E (Heap.of st.hp) j:=by
    intro j hj
    have h0:=hs.fresh j hj
    refine ⟨h0.1,h0.2,?_⟩
    cases h1:Heap.of st.hp j with
    | none=>rfl
    | some ob =>
     have hown:=hs.ok.heap.own j ob h1
     cases ob with
     | cells t cs=>obtain ⟨k,us,hk',_⟩:=hown; rw [h0.1] at hk'; cases hk'
     | fz t cs=>obtain ⟨k,us,hk',_⟩:=hown; rw [h0.1] at hk'; cases hk'
     | vec t sz n f=>obtain ⟨hd',g,hh,_⟩:=hown; rw [h0.2] at hh; cases hh
     | mp t q es=>obtain ⟨k,kt,et,hh,_⟩:=hown; rw [h0.2] at hh; cases hh
     | vecx t sz n f j fj=>obtain ⟨hd',g,hh,_⟩:=hown; rw [h0.2] at hh; cases hh
   cases draw with
   | false =>
    refine wpIn_region_lit ?_
    refine RCtx.seq_sound (X:=X) rfl rfl hT hgd _ l 0 ⟨look st.tm,Heap.of st.hp⟩ es E a w he hq hs.ok (fun j hj=>hfree j (by simpa [X] using hj)) ?_
    intro E' a' w' _ hok hfr
    exact fin E' a' w' hok (fun j hj=>hfr j (by simpa [X] using hj))
   | true =>
    refine wpIn_region_any hm ?_
    simp only [Bool.not_true,Bool.false_or] at hd
    refine RCtx.draw_sound (X:=X) rfl rfl hT hgd _ he hq hd (fun E' a' w' hok hfr=>fin E' a' w' hok (fun j hj=>hfr j hj)) _ _ E a _ (by simp) ?_ ?_ ?_ ?_
    ·have:∀ i,i < l.length->(Array.replicate l.toArray.size false).getD i false=false:=fun i hi=>by simp [Array.getD_eq_getD_getElem?,hi]
     rw [List.filter_eq_self.2 (fun i hi=>by rw [this i (List.mem_range.1 hi)]; rfl)]
     simp
    ·intro i o _ hf
     have:(Array.replicate l.toArray.size false).getD i false=false:=by
      simp only [Array.getD_eq_getD_getElem?]
      cases h:(Array.replicate l.toArray.size false)[i]? with
      | none=>rfl
      | some b=>rw [Array.getElem?_replicate] at h; split at h <;> cases h; rfl
     have hf':(Array.replicate l.toArray.size false).getD i false=true:=hf
     rw [this] at hf'
     cases hf'
    ·have hsel:∀ (r:List Oper) (es:List Eff) (i:Nat) (s:RS) (f:Nat->Bool),(∀ j,f j=false)->appSel f s r es i=s:=by
      intro r
      induction r with
      | nil=>intro es i s f _; cases es <;> rfl
      | cons o r ih =>
       intro es i s f hf
       cases es with
       | nil=>rfl
       | cons e es =>
        show appSel f (if f i then s.app o e else s) r es (i + 1)=s
        rw [hf i,if_neg (by simp)]
        exact ih es (i + 1) s f hf
     rw [hsel]
     ·exact ⟨hs.ok.heap.drew,hs.ok.tm,hs.ok.defers,hs.ok.size⟩
     ·intro j
      simp only [Array.getD_eq_getD_getElem?]
      cases h:(Array.replicate l.toArray.size false)[j]? with
      | none=>rfl
      | some b=>rw [Array.getElem?_replicate] at h; split at h <;> cases h; rfl
    ·intro j hj _
     exact ⟨(hfree j hj).1,(hfree j hj).2.1⟩
  ·cases h
 ·cases h
end
end Go.Ab
namespace Go.Ab
open Go Go.RowKit
theorem idsL_get:∀ {cs:List AV},idsL cs = [] -> ∀ k,ids (cs.getD k .any) = []:=by
 intro cs
 induction cs with
 | nil=>intro _ k; simp [ids]
 | cons c cs ih =>
  intro h k
  simp only [idsL,List.append_eq_nil_iff] at h
  cases k with
  | zero=>simpa using h.1
  | succ k=>simpa using ih h.2 k
theorem Rel.trim {E F:Env} (hM:∀ b o,E.M b=some o->F.M b=some o) (hf:F.fns=E.fns):∀ {o:Bool} {av:AV} {u:Value},Rel E o av u->(o=true->ids av = [])->Rel F o av u:=by
 intro o av u h
 refine Rel.rec (motive_1:=fun o av u _=>(o=true->ids av = [])->Rel F o av u) (motive_2:=fun o cs us _=>(o=true->idsL cs = [])->RelL F o cs us) ?_ ?_ ?_ ?_ ?_ ?_ ?_ ?_ ?_ ?_ ?_ ?_ ?_ ?_ ?_ ?_ ?_ ?_ ?_ ?_ ?_ ?_ ?_ ?_ ?_ ?_ ?_ ?_ h
 ·intro o u _; exact .any u
 ·intro o u _; exact .lit u
 ·intro o cs us _ ih hn; exact .agg (ih (fun e=>by simpa [ids] using hn e))
 ·intro o cs us hl _ ih hn; exact .tup hl fun k=>ih k (fun e=>idsL_get (by simpa [ids] using hn e) k)
 ·intro o sz f _; exact .slN sz f
 ·intro o sz n f b off cap g hn hc hg hm _ ih _
  exact .slA sz n f b off cap g hn hc hg (fun i k hi hk=>mcell_mono' hM (by rw [hg i hi]; exact hk) (hm i k hi hk)) (fun i hi=>ih i hi (fun e=>by cases e))
 ·intro o sz f a _; exact .slZ sz f a
 ·intro o sz f _; exact .slcN sz f
 ·intro o sz n f b off g hc hg hm _ ih _
  exact .slcA sz n f b off g hc hg (fun i k hi hk=>mcell_mono' hM (by rw [hg i hi]; exact hk) (hm i k hi hk)) (fun i hi=>ih i hi (fun e=>by cases e))
 ·intro o sz f a _; exact .slcZ sz f a
 ·intro o cs us b off hm _ ih _; exact .rp b off (fun k hk=>mcell_mono' hM hk (hm k hk)) (ih (fun e=>by cases e))
 ·intro o f cs us b off hm _ ih _; exact .mth b off (fun k hk=>mcell_mono' hM hk (hm k hk)) (ih (fun e=>by cases e))
 ·intro o f cs us _ ih _; exact .mtv (ih (fun e=>by cases e))
 ·intro o g cs h _; exact .optN cs h
 ·intro o g cs us b off hg hm _ ih _; exact .optS b off hg (fun k hk=>mcell_mono' hM hk (hm k hk)) (ih (fun e=>by cases e))
 ·intro o g sz n f h _; exact .oslN sz n f h
 ·intro o g sz n f a k c hg _ ih _; exact .oslS a k c hg (ih (fun _=>by simp [ids]))
 ·intro o P kt et q es b a c hm hw _; exact .mz b a c (hM _ _ hm) hw
 ·intro k b p h hn; exact absurd (hn rfl) (by simp [ids])
 ·intro u b h h1 hn; exact absurd (hn rfl) (by simp [ids])
 ·intro k n c b i sz p h hn; exact absurd (hn rfl) (by simp [ids])
 ·intro k cap b p sz n h hn hh; exact absurd (hh rfl) (by simp [ids])
 ·intro u k h _; exact .fn k (by rw [hf]; exact h)
 ·intro o caps us f hl _ ih hn; exact .clo f hl fun k=>ih k (fun e=>idsL_get (by simpa [ids] using hn e) k)
 ·intro o g v u _ h2 ih hn; exact .cnd (fun e=>ih e (fun e=>by simpa [ids] using hn e)) h2
 ·intro o _; exact .nil
 ·intro o v u cs us _ h1 _ ih ihs hn
  exact .cons (ih (fun e=>by have:=hn e; simp only [idsL,List.append_eq_nil_iff] at this; exact this.1)) h1 (ihs (fun e=>by have:=hn e; simp only [idsL,List.append_eq_nil_iff] at this; exact this.2))
 ·intro o sz n f cs us g hg _ _ ih ihs hn
  exact .arr g hg (fun i hi=>ih i hi (fun e=>by cases e)) (ihs (fun e=>by have:=hn e; simp only [idsL,List.append_eq_nil_iff] at this; exact this.2))
theorem RelL.trim {E F:Env} (hM:∀ b o,E.M b=some o->F.M b=some o) (hf:F.fns=E.fns) {cs:List AV} {us:List Value} (h:RelL E false cs us):RelL F false cs us:=by
 have:=Rel.trim hM hf (Rel.agg h) (fun e=>by cases e)
 generalize hz:us.toArray=z at this
 cases this with
 | agg h' =>
  rename_i us'
  have:us=us':=by simpa using hz
  rw [this]; exact h'
inductive Src where
 | same (b:Nat)
 | nil
def srcOfId:List (Nat × Src)->Nat->Option Src
 | [],_=>none
 | p :: r,i=>if p.1=i then some p.2 else srcOfId r i
def coeZ:AV->AV->Prop
 | .sl sz' n' f',.sl sz n f=>sz'=sz/\n'=n /\ ∀ i,i < n->f' i=f i
 | .slc sz' n' f',.sl sz n f=>sz'=sz/\n'=n /\ ∀ i,i < n->f' i=f i
 | .lit (.slice none 0 0),.sl _ n _=>n=0
 | v,t=>v=t
def coeZL:List AV->List AV->Prop
 | [],[]=>True
 | v :: vs,t :: ts=>coeZ v t/\coeZL vs ts
 | _,_=>False
theorem coeZ_rel {E:Env} {o:Bool} {v t:AV} {u:Value} (h:coeZ v t) (hr:Rel E o v u):Rel E o t u:=by
 unfold coeZ at h
 split at h
 ·obtain ⟨rfl,rfl,hh⟩:=h; exact sl_congr hr hh
 ·obtain ⟨rfl,rfl,hh⟩:=h
  refine sl_congr (E:=E) ?_ hh
  cases hr with
  | slcN=>exact .slN _ _
  | slcZ=>exact .slZ _ _ _
  | slcA _ _ _ b off g hc hg hm h=>exact .slA _ _ _ b off _ g (Nat.le_refl _) hc hg hm h
 ·subst h; cases hr; exact .slN _ _
 ·subst h; exact hr
theorem coeZ_arr {sz n:Nat} {f:Nat->List AV} {t:AV} (h:coeZ (.arr sz n f) t):t = .arr sz n f:=by
 cases t <;> exact h.symm
theorem coeZL_rel {E:Env} {o:Bool}:∀ {vs ts:List AV} {us:List Value},coeZL vs ts->RelL E o vs us->RelL E o ts us:=by
 intro vs
 induction vs with
 | nil =>
  intro ts us h hr
  cases ts with
  | nil=>exact hr
  | cons=>exact h.elim
 | cons v vs ih =>
  intro ts us h hr
  cases ts with
  | nil=>exact h.elim
  | cons t ts =>
   cases hr with
   | cons h0 h1 hs=>exact .cons (coeZ_rel h.1 h0) h1 (ih h.2 hs)
   | arr g hg h0 hs =>
    have h2:=h.1
    have h3:=coeZ_arr h2
    subst h3
    exact .arr g hg h0 (ih h.2 hs)
def coeK (mp:List (Nat × Src)):AV->AV->Prop
 | .ptr b p,.ptr c q=>srcOfId mp c=some (.same b)/\p=q
 | .vec b,.vec c=>srcOfId mp c=some (.same b)
 | v,t=>v=t/\ids t = []
def coeKL (mp:List (Nat × Src)):List AV->List AV->Prop
 | [],[]=>True
 | v :: vs,t :: ts=>coeK mp v t/\coeKL mp vs ts
 | _,_=>False
theorem coeKL_get {mp:List (Nat × Src)}:∀ {vs ts:List AV},coeKL mp vs ts->vs.length=ts.length /\ ∀ k,coeK mp (vs.getD k .any) (ts.getD k .any):=by
 intro vs
 induction vs with
 | nil =>
  intro ts h
  cases ts with
  | nil=>exact ⟨rfl,fun k=>⟨rfl,rfl⟩⟩
  | cons=>exact h.elim
 | cons v vs ih =>
  intro ts h
  cases ts with
  | nil=>exact h.elim
  | cons t ts =>
   obtain ⟨h1,h2⟩:=ih h.2
   refine ⟨by simp [h1],fun k => ?_⟩
   cases k with
   | zero=>exact h.1
   | succ k=>exact h2 k
def coeC (L:Nat->Option OB) (mp:List (Nat × Src)):AV->AV->Prop × List Nat
 | _,.any=>(True,[])
 | .vec b,.sl sz n f =>
  match L b with
  | some (.vec _ sz' n' f')=>(sz'=sz/\n'=n /\ ∀ i,i < n->f' i=f i,[b])
  | _=>(False,[])
 | .vec b,.vec c=>(srcOfId mp c=some (.same b),[])
 | .ptr b p,.ptr c q=>(srcOfId mp c=some (.same b)/\p=q,[])
 | .win b p sz n,.win c q sz' n'=>(srcOfId mp c=some (.same b)/\p=q/\sz=sz'/\n=n',[])
 | .vp b i sz p,.vp c j sz' q=>(srcOfId mp c=some (.same b)/\i=j/\sz=sz'/\p=q,[])
 | .sl sz' n' f',.sl sz n f=>(sz'=sz/\n'=n /\ ∀ i,i < n->f' i=f i,[])
 | .slc sz' n' f',.sl sz n f=>(sz'=sz/\n'=n /\ ∀ i,i < n->f' i=f i,[])
 | .lit (.slice none 0 0),.sl _ n _=>(n=0,[])
 | .lit (.slice none 0 0),.vec c=>(srcOfId mp c=some .nil,[])
 | .arr sz' n' f',.arr sz n f=>(sz'=sz/\n'=n /\ ∀ i,i < n->f' i=f i,[])
 | .rp cs,.opt g ds=>(g=true/\coeZL cs ds,[])
 | .lit (.pointer none),.opt g _=>(g=false,[])
 | .opt g cs,.opt g' ds=>(g=g'/\(g'=true->coeZL cs ds),[])
 | .lit (.slice none 0 0),.osl g _ _ _=>(g=false,[])
 | .sl sz' n' f',.osl g sz n f=>(g=true/\0 < n/\sz'=sz/\n'=n /\ ∀ i,i < n->f' i=f i,[])
 | .osl g' sz' n' f',.osl g sz n f=>(g'=g/\(g=true->sz'=sz/\n'=n /\ ∀ i,i < n->f' i=f i),[])
 | .osl g sz' n' f',.sl sz n f=>(g=true/\sz'=sz/\n'=n /\ ∀ i,i < n->f' i=f i,[])
 | .clo f cs,.clo g ds=>(f=g/\coeKL mp cs ds,[])
 | v,t=>(v=t/\ids t = [],[])
def coeCL (L:Nat->Option OB) (mp:List (Nat × Src)):List AV->List AV->Prop × List Nat
 | [],[]=>(True,[])
 | v :: vs,t :: ts=>((coeC L mp v t).1/\(coeCL L mp vs ts).1,(coeC L mp v t).2 ++ (coeCL L mp vs ts).2)
 | _,_=>(False,[])
def coeS (L:Nat->Option OB) (mp:List (Nat × Src)):AV->AV->Prop × List Nat
 | .agg cs,.agg ds=>coeCL L mp cs ds
 | v,t=>coeC L mp v t
def coeSL (L:Nat->Option OB) (mp:List (Nat × Src)):List AV->List AV->Prop × List Nat
 | [],[]=>(True,[])
 | v :: vs,t :: ts=>((coeS L mp v t).1/\(coeSL L mp vs ts).1,(coeS L mp v t).2 ++ (coeSL L mp vs ts).2)
 | _,_=>(False,[])
def coeV (L:Nat->Option OB) (mp:List (Nat × Src)):AV->AV->Prop × List Nat
 | .tup vs,.tup ts=>coeSL L mp vs ts
 | .clo f vs,.clo g ts=>(f=g/\(coeSL L mp vs ts).1,(coeSL L mp vs ts).2)
 | .cnd g v,t=>(g=true/\(coeS L mp v t).1,(coeS L mp v t).2)
 | v,t=>coeS L mp v t
section
variable {C:Ctx} {E F:Env} {H:Heap} {w:World}
structure EntEnv (L:Nat->Option OB) (mp:List (Nat × Src)) (bs:List Nat) (E F:Env):Prop where
 M:∀ b o,E.M b=some o->F.M b=some o
 fns:F.fns=E.fns
 same:∀ c b,srcOfId mp c=some (.same b)->F.blk c=E.blk b/\F.hdr c=E.hdr b
 nil:∀ c,srcOfId mp c=some .nil->F.blk c=none/\F.hdr c=some (.slice none 0 0)
 frz:∀ b ∈ bs,∀ t sz n f,L b=some (.vec t sz n f) -> ∀ hd,E.hdr b=some hd -> ∀ ob,Rel F ob (.sl sz n f) hd
theorem coeK_rel {L:Nat->Option OB} {mp:List (Nat × Src)} {bs:List Nat} (he:EntEnv L mp bs E F) {v t:AV} {u:Value} (h:coeK mp v t) (hr:Rel E true v u):Rel F true t u:=by
 unfold coeK at h
 split at h
 ·obtain ⟨h1,rfl⟩:=h
  cases hr with
  | ptr _ _ hk=>exact .ptr _ _ (by rw [(he.same _ _ h1).1]; exact hk)
 ·cases hr with
  | vec _ hd h1=>exact .vec _ (by rw [(he.same _ _ h).2]; exact hd) h1
 ·obtain ⟨rfl,hi⟩:=h
  exact hr.trim he.M he.fns (fun _=>hi)
theorem coeC_rel {L:Nat->Option OB} {mp:List (Nat × Src)} {bs:List Nat} (he:EntEnv L mp bs E F) {v t:AV} {u:Value} {p:Prop × List Nat} (hp:coeC L mp v t=p) (h:p.1) (hb:∀ b ∈ p.2,b ∈ bs) (hr:Rel E true v u):Rel F true t u:=by
 unfold coeC at hp
 split at hp
 ·exact .any _
 ·split at hp
  ·rename_i b sz n f _ ty sz' n' f' hL
   rw [← hp] at h hb
   obtain ⟨rfl,rfl,hh⟩:=h
   cases hr with
   | vec _ hd _=>exact sl_congr (he.frz b (hb b (by simp)) ty _ _ f' hL u hd true) hh
  ·rw [← hp] at h; exact h.elim
 ·rw [← hp] at h
  cases hr with
  | vec _ hd h1=>exact .vec _ (by rw [(he.same _ _ h).2]; exact hd) h1
 ·rw [← hp] at h
  obtain ⟨h1,rfl⟩:=h
  cases hr with
  | ptr _ _ hk=>exact .ptr _ _ (by rw [(he.same _ _ h1).1]; exact hk)
 ·rw [← hp] at h
  obtain ⟨h1,rfl,rfl,rfl⟩:=h
  cases hr with
  | win _ _ _ _ hk hn=>exact .win _ _ _ _ (by rw [(he.same _ _ h1).1]; exact hk) ⟨hn.1,hn.2.1,fun hc=>by rw [(he.same _ _ h1).2]; exact hn.2.2 hc⟩
 ·rw [← hp] at h
  obtain ⟨h1,rfl,rfl,rfl⟩:=h
  cases hr with
  | vp _ _ _ _ hk=>exact .vp _ _ _ _ (by rw [(he.same _ _ h1).2]; exact hk)
 ·rw [← hp] at h
  obtain ⟨rfl,rfl,hh⟩:=h
  exact sl_congr (hr.trim he.M he.fns (fun _=>rfl)) hh
 ·rw [← hp] at h
  obtain ⟨rfl,rfl,hh⟩:=h
  refine sl_congr (E:=F) ?_ hh
  have:=hr.trim he.M he.fns (fun _=>rfl)
  cases this with
  | slcN=>exact .slN _ _
  | slcZ=>exact .slZ _ _ _
  | slcA _ _ _ b off g hc hg hm h=>exact .slA _ _ _ b off _ g (Nat.le_refl _) hc hg hm h
 ·rw [← hp] at h
  replace h:_=0:=h
  subst h
  cases hr
  exact .slN _ _
 ·rw [← hp] at h
  cases hr
  exact .vec _ (he.nil _ h).2 rfl
 ·cases hr
 ·rw [← hp] at h
  obtain ⟨rfl,hh⟩:=h
  have:=hr.trim he.M he.fns (fun _=>rfl)
  cases this with
  | rp b off hm hl =>
   have hl':=coeZL_rel hh hl
   exact .optS b off rfl hm hl'
 ·rw [← hp] at h
  cases hr
  exact .optN _ h
 ·rw [← hp] at h
  obtain ⟨rfl,hh⟩:=h
  have:=hr.trim he.M he.fns (fun _=>rfl)
  cases this with
  | optN _ hg=>exact .optN _ hg
  | optS b off hg hm hl=>exact .optS b off hg hm (coeZL_rel (hh hg) hl)
 ·rw [← hp] at h
  cases hr
  exact .oslN _ _ _ h
 ·rw [← hp] at h
  obtain ⟨rfl,h0,rfl,rfl,hh⟩:=h
  have:=sl_congr (hr.trim he.M he.fns (fun _=>by simp [ids])) hh
  cases this with
  | slN=>exact absurd h0 (by omega)
  | slZ=>exact absurd h0 (by omega)
  | slA _ _ _ b off cap g hn hcc hgl hm h=>exact .oslS _ _ _ rfl (.slA _ _ _ b off cap g hn hcc hgl hm h)
 ·rw [← hp] at h
  obtain ⟨rfl,hh⟩:=h
  have:=hr.trim he.M he.fns (fun _=>by simp [ids])
  cases this with
  | oslN _ _ _ h=>exact .oslN _ _ _ h
  | oslS a k c hg h =>
   obtain ⟨rfl,rfl,h2⟩:=hh hg
   exact .oslS a k c hg (sl_congr h h2)
 ·rw [← hp] at h
  obtain ⟨hg,rfl,rfl,hh⟩:=h
  have:=hr.trim he.M he.fns (fun _=>by simp [ids])
  cases this with
  | oslN _ _ _ h=>exact absurd (h.symm.trans hg) (by simp)
  | oslS a k c _ h=>exact sl_congr h hh
 ·rw [← hp] at h
  obtain ⟨rfl,hh⟩:=h
  obtain ⟨h1,h2⟩:=coeKL_get hh
  cases hr with
  | clo _ hl hk=>exact .clo _ (hl.trans h1) fun k=>coeK_rel he (h2 k) (hk k)
 ·rw [← hp] at h
  obtain ⟨rfl,h2⟩:=h
  exact hr.trim he.M he.fns (fun _=>h2)
theorem coeC_arr {L:Nat->Option OB} {mp:List (Nat × Src)} {sz n:Nat} {f:Nat->List AV} {t:AV} {p:Prop × List Nat} (hp:coeC L mp (.arr sz n f) t=p) (h:p.1):t = .any ∨ ∃ g,t = .arr sz n g /\ ∀ i,i < n->f i=g i:=by
 cases t <;> simp only [coeC] at hp
 case any=>exact .inl rfl
 case arr sz' n' g =>
  rw [← hp] at h
  obtain ⟨rfl,rfl,hh⟩:=h
  exact .inr ⟨g,rfl,hh⟩
 all_goals (rw [← hp] at h; have:=h.1; cases this)
theorem coeCL_rel {L:Nat->Option OB} {mp:List (Nat × Src)} {bs:List Nat} (he:EntEnv L mp bs E F):∀ {vs ts:List AV} {us:List Value},(coeCL L mp vs ts).1->(∀ b ∈ (coeCL L mp vs ts).2,b ∈ bs)->(∀ sz n f,AV.arr sz n f ∈ vs->AV.any ∉ ts)->RelL E true vs us->RelL F true ts us:=by
 intro vs
 induction vs with
 | nil =>
  intro ts us h _ _ hr
  cases ts with
  | nil=>cases hr; exact .nil
  | cons=>exact h.elim
 | cons v vs ih =>
  intro ts us h hb ha hr
  cases ts with
  | nil=>exact h.elim
  | cons t ts =>
   simp only [coeCL] at h hb
   have ha':∀ sz n f,AV.arr sz n f ∈ vs->AV.any ∉ ts:=fun sz n f hm hn=>ha sz n f (List.mem_cons_of_mem _ hm) (List.mem_cons_of_mem _ hn)
   cases hr with
   | cons h0 h1 hs=>exact .cons (coeC_rel he rfl h.1 (fun b hm=>hb b (List.mem_append_left _ hm)) h0) h1 (ih h.2 (fun b hm=>hb b (List.mem_append_right _ hm)) ha' hs)
   | arr g hg h0 hs =>
    rcases coeC_arr rfl h.1 with h1 | ⟨f',rfl,hff⟩
    ·exact absurd (by rw [h1]; exact List.mem_cons_self) (ha _ _ _ List.mem_cons_self)
    ·exact .arr g hg (fun i hi=>by rw [← hff i hi]; exact (h0 i hi).trim he.M he.fns) (ih h.2 (fun b hm=>hb b (List.mem_append_right _ hm)) ha' hs)
def noAnyL:List AV->Bool
 | []=>true
 | .any :: _=>false
 | _ :: r=>noAnyL r
theorem noAnyL_not:∀ {l:List AV},noAnyL l=true->AV.any ∉ l:=by
 intro l
 induction l with
 | nil=>intro _ h; cases h
 | cons c l ih =>
  intro h hm
  cases hm with
  | head=>cases h
  | tail _ hm=>cases c <;> first | cases h | exact ih h hm
def fullS:AV->Bool
 | .agg cs=>noAnyL cs
 | _=>true
theorem coeS_rel {L:Nat->Option OB} {mp:List (Nat × Src)} {bs:List Nat} (he:EntEnv L mp bs E F) {v t:AV} {u:Value} {p:Prop × List Nat} (hp:coeS L mp v t=p) (h:p.1) (hb:∀ b ∈ p.2,b ∈ bs) (hf:fullS t=true) (hr:Rel E true v u):Rel F true t u:=by
 unfold coeS at hp
 split at hp
 ·rw [← hp] at h hb
  cases hr with
  | agg hl=>exact .agg (coeCL_rel he h hb (fun _ _ _ _=>noAnyL_not hf) hl)
 ·exact coeC_rel he hp h hb hr
theorem coeSL_get {L:Nat->Option OB} {mp:List (Nat × Src)}:∀ {vs ts:List AV},(coeSL L mp vs ts).1->vs.length=ts.length /\ ∀ k,k < vs.length->(coeS L mp (vs.getD k .any) (ts.getD k .any)).1 /\ ∀ b ∈ (coeS L mp (vs.getD k .any) (ts.getD k .any)).2,b ∈ (coeSL L mp vs ts).2:=by
 intro vs
 induction vs with
 | nil=>intro ts h; cases ts with | nil=>exact ⟨rfl,fun k hk=>absurd hk (by simp)⟩ | cons=>exact h.elim
 | cons v vs ih =>
  intro ts h
  cases ts with
  | nil=>exact h.elim
  | cons t ts =>
   obtain ⟨h1,h2⟩:=ih h.2
   refine ⟨by simp [h1],fun k hk => ?_⟩
   cases k with
   | zero=>exact ⟨h.1,fun b hm=>List.mem_append_left _ hm⟩
   | succ k =>
    obtain ⟨h3,h4⟩:=h2 k (by simpa using hk)
    exact ⟨by simpa using h3,fun b hm=>List.mem_append_right _ (h4 b (by simpa using hm))⟩
theorem coeSL_rel {L:Nat->Option OB} {mp:List (Nat × Src)} {bs:List Nat} (he:EntEnv L mp bs E F) {vs ts:List AV} (h:(coeSL L mp vs ts).1) (hb:∀ b ∈ (coeSL L mp vs ts).2,b ∈ bs) (hf:ts.all fullS=true) {us:List Value}
  (hr:∀ k,Rel E true (vs.getD k .any) (us.getD k undef)) (k:Nat):Rel F true (ts.getD k .any) (us.getD k undef):=by
 obtain ⟨hl,hg⟩:=coeSL_get h
 rcases Nat.lt_or_ge k vs.length with hk | hk
 ·obtain ⟨h1,h2⟩:=hg k hk
  refine coeS_rel he rfl h1 (fun b hm=>hb b (h2 b hm)) ?_ (hr k)
  rw [List.all_eq_true] at hf
  rw [List.getD_eq_getElem?_getD,List.getElem?_eq_getElem (by omega)]
  exact hf _ (List.getElem_mem _)
 ·rw [List.getD_eq_getElem?_getD (l:=ts),List.getElem?_eq_none (by omega)]
  exact .any _
def fullV:AV->Bool
 | .tup ts=>ts.all fullS
 | .clo _ ts=>ts.all fullS
 | t=>fullS t
theorem fullV_S {t:AV} (h:fullV t=true):fullS t=true:=by cases t <;> first | exact h | rfl
theorem coeV_rel {L:Nat->Option OB} {mp:List (Nat × Src)} {bs:List Nat} (he:EntEnv L mp bs E F) {v t:AV} {u:Value} {p:Prop × List Nat} (hp:coeV L mp v t=p) (h:p.1) (hb:∀ b ∈ p.2,b ∈ bs) (hf:fullV t=true) (hr:Rel E true v u):Rel F true t u:=by
 unfold coeV at hp
 split at hp
 ·rw [← hp] at h hb
  cases hr with
  | tup hl hk=>exact .tup (by rw [hl]; exact (coeSL_get h).1) (coeSL_rel he h hb hf hk)
 ·rw [← hp] at h hb
  obtain ⟨rfl,h⟩:=h
  cases hr with
  | clo _ hl hk=>exact .clo _ (by rw [hl]; exact (coeSL_get h).1) (coeSL_rel he h hb hf hk)
 ·rw [← hp] at h hb
  obtain ⟨hg,h⟩:=h
  cases hr with
  | cnd h1 h2=>exact coeS_rel he rfl h hb (fullV_S hf) (h1 hg)
 ·exact coeS_rel he hp h hb (fullV_S hf) hr
theorem World.ownsRow_unique {w:World} {t:TypeId} {sz n:Nat} {v:Value} {xs ys:List Value} (h1:w.ownsRow 0 t sz v n xs) (h2:w.ownsRow 0 t sz v n ys):xs=ys:=by
 rcases h1.2 with ⟨rfl,h0⟩ | ⟨g,cap,cur,rfl,_,hw,_,_,_,ht⟩
 ·have e1:=h1.1
  have e2:=h2.1
  subst h0
  rw [Nat.zero_mul] at e1 e2
  rw [List.eq_nil_of_length_eq_zero e1,List.eq_nil_of_length_eq_zero e2]
 ·rcases h2.2 with ⟨h,_⟩ | ⟨g',cap',cur',h,_,hw',_,_,_,ht'⟩
  ·cases h
  ·cases h
   rw [hw] at hw'
   cases hw'
   rw [← ht,ht']
def coeB (L:Nat->Option OB) (mp:List (Nat × Src)):OB->OB->Prop × List Nat
 | .cells t cs,.cells t' ds=>(t=t'/\(coeCL L mp cs ds).1/\noAnyL ds=true,(coeCL L mp cs ds).2)
 | .vec t sz n f,.vec t' sz' n' f'=>(t=t'/\sz=sz'/\n=n' /\ ∀ i,i < n->f i=f' i,[])
 | .mp t q es,.mp t' q' es'=>(t=t'/\q=q'/\es=es',[])
 | .vecx t sz n f j fj,.vecx t' sz' n' f' j' fj'=>(t=t'/\sz=sz'/\n=n'/\j=j'/\(∀ i,i < n->i ≠ j->f i=f' i)/\(coeCL L mp fj fj').1/\noAnyL fj'=true,(coeCL L mp fj fj').2)
 | .vecx t sz n f j fj,.vec t' sz' n' f'=>(t=t'/\sz=sz'/\n=n'/\(∀ i,i < n->i ≠ j->f i=f' i)/\(coeCL L mp fj (f' j)).1/\noAnyL (f' j)=true/\(f' j).all capOK=true,(coeCL L mp fj (f' j)).2)
 | .vec t sz n f,.vecx t' sz' n' f' j' fj'=>(t=t'/\sz=sz'/\n=n'/\(∀ i,i < n->i ≠ j'->f i=f' i)/\(coeCL L mp (f j') fj').1/\noAnyL fj'=true,(coeCL L mp (f j') fj').2)
 | _,_=>(False,[])
def coeT (L:Nat->Option OB) (mp:List (Nat × Src)) (tm:Nat->AV):List (Nat × AV)->Prop × List Nat
 | []=>(True,[])
 | p :: r=>((coeV L mp (tm p.1) p.2).1/\(coeT L mp tm r).1,(coeV L mp (tm p.1) p.2).2 ++ (coeT L mp tm r).2)
def coeH (L:Nat->Option OB) (mp:List (Nat × Src)):List (Nat × OB)->Prop × List Nat
 | []=>(True,[])
 | p :: r =>
  match srcOfId mp p.1 with
  | some (.same b) =>
   match L b with
   | some ob=>((coeB L mp ob p.2).1/\(coeH L mp r).1,(coeB L mp ob p.2).2 ++ (coeH L mp r).2)
   | none=>(False,[])
  | some .nil =>
   match p.2 with
   | .vec _ _ n _=>(n=0/\(coeH L mp r).1,(coeH L mp r).2)
   | .vecx _ _ n _ _ _=>(n=0/\(coeH L mp r).1,(coeH L mp r).2)
   | _=>(False,[])
  | none=>(False,[])
def sames:List (Nat × Src)->List Nat
 | []=>[]
 | (_,.same b) :: r=>b :: sames r
 | _ :: r=>sames r
def entB (lim:Nat) (st2:ASt) (bs:List Nat) (mp:List (Nat × Src)):Bool :=
 noDup (bs ++ sames mp) && noDup (mp.map (·.1)) && st2.tm.all (fun p=>fullV p.2) && mp.all (fun p=>decide (p.1 < st2.nx) && (!decide (p.1 < lim) || (match p.2 with | .same b=>b == p.1 | .nil=>false))) && decide (lim<=st2.nx)
def entQ (st st2:ASt) (bs:List Nat) (mp:List (Nat × Src)):Prop :=
 (coeT (Heap.of st.hp) mp (look st.tm) st2.tm).1/\(coeH (Heap.of st.hp) mp st2.hp).1 ∧
 ((coeT (Heap.of st.hp) mp (look st.tm) st2.tm).2 ++ (coeH (Heap.of st.hp) mp st2.hp).2).all (fun b=>bs.contains b)=true/\bs.all (fun b=>match Heap.of st.hp b with | some (.vec _ _ _ _)=>true | _=>false)=true
theorem srcOfId_mem:∀ {mp:List (Nat × Src)} {c:Nat} {x:Src},srcOfId mp c=some x->(c,x) ∈ mp:=by
 intro mp
 induction mp with
 | nil=>intro c x h; cases h
 | cons p r ih =>
  intro c x h
  simp only [srcOfId] at h
  split at h
  ·rename_i e; cases h; rw [← e]; exact List.mem_cons_self
  ·exact List.mem_cons_of_mem _ (ih h)
theorem sames_mem:∀ {mp:List (Nat × Src)} {c b:Nat},(c,Src.same b) ∈ mp->b ∈ sames mp:=by
 intro mp
 induction mp with
 | nil=>intro c b h; cases h
 | cons p r ih =>
  intro c b h
  obtain ⟨c',x⟩:=p
  cases h with
  | head=>simp only [sames]; exact List.mem_cons_self
  | tail _ h =>
   cases x with
   | same b'=>simp only [sames]; exact List.mem_cons_of_mem _ (ih h)
   | nil=>simp only [sames]; exact ih h
theorem sames_inj:∀ {mp:List (Nat × Src)} {c d b:Nat},noDup (sames mp)=true->srcOfId mp c=some (.same b)->srcOfId mp d=some (.same b)->c=d:=by
 intro mp
 induction mp with
 | nil=>intro c d b _ h; cases h
 | cons p r ih =>
  intro c d b hn hc hd
  obtain ⟨c',x⟩:=p
  simp only [srcOfId] at hc hd
  have hn':noDup (sames r)=true:=by
   cases x with
   | same b'=>exact (noDup_cons hn).2
   | nil=>exact hn
  split at hc
  ·rename_i e1
   cases hc
   have hb:=(noDup_cons (show noDup (b :: sames r)=true from hn)).1
   split at hd
   ·rename_i e2; rw [← e1,← e2]
   ·exact absurd (sames_mem (srcOfId_mem hd)) hb
  ·split at hd
   ·rename_i e2
    cases hd
    have hb:=(noDup_cons (show noDup (b :: sames r)=true from hn)).1
    exact absurd (sames_mem (srcOfId_mem hc)) hb
   ·exact ih hn' hc hd
theorem coeT_look {L:Nat->Option OB} {mp:List (Nat × Src)} {bs:List Nat} (he:EntEnv L mp bs E F) {tm:Nat->AV} {a:Act} (hr:∀ t,Rel E true (tm t) (a.tmps.getD t undef)):∀ (l:List (Nat × AV)),(coeT L mp tm l).1->(∀ b ∈ (coeT L mp tm l).2,b ∈ bs) →
  l.all (fun p=>fullV p.2)=true -> ∀ t,Rel F true (look l t) (a.tmps.getD t undef):=by
 intro l
 induction l with
 | nil=>intro _ _ _ t; exact .any _
 | cons p r ih =>
  intro h hb hf t
  simp only [coeT] at h hb
  simp only [List.all_cons,Bool.and_eq_true] at hf
  simp only [look]
  split
  ·rename_i e
   rw [← e]
   exact coeV_rel he rfl h.1 (fun b hm=>hb b (List.mem_append_left _ hm)) hf.1 (hr p.1)
  ·exact ih h.2 (fun b hm=>hb b (List.mem_append_right _ hm)) hf.2 t
theorem coeH_get {L:Nat->Option OB} {mp:List (Nat × Src)}:∀ (l:List (Nat × OB)),(coeH L mp l).1 -> ∀ c ob,Heap.of l c=some ob →
  (∃ b ob1,srcOfId mp c=some (.same b)/\L b=some ob1/\(coeB L mp ob1 ob).1 /\ ∀ x ∈ (coeB L mp ob1 ob).2,x ∈ (coeH L mp l).2) ∨ (srcOfId mp c=some .nil/\((∃ t sz f,ob = .vec t sz 0 f) ∨ ∃ t sz f j fj,ob = .vecx t sz 0 f j fj)):=by
 intro l
 induction l with
 | nil=>intro _ c ob h; cases h
 | cons p r ih =>
  intro h c ob hc
  rw [Heap.of_cons] at hc
  simp only [coeH] at h ⊢
  split at h
  ·rename_i b hsb
   split at h
   ·rename_i ob1 hL
    simp only
    split at hc
    ·rename_i e
     cases hc
     rw [← e]
     exact .inl ⟨b,ob1,hsb,hL,h.1,fun x hx=>List.mem_append_left _ hx⟩
    ·rcases ih h.2 c ob hc with ⟨b',ob',h1,h2,h3,h4⟩ | h5
     ·exact .inl ⟨b',ob',h1,h2,h3,fun x hx=>List.mem_append_right _ (h4 x hx)⟩
     ·exact .inr h5
   ·exact h.elim
  ·rename_i hsn
   split at h
   ·rename_i t sz n f hp
    obtain ⟨rfl,h⟩:=h
    split at hc
    ·rename_i e
     cases hc
     rw [← e]
     exact .inr ⟨hsn,.inl ⟨t,sz,f,hp⟩⟩
    ·exact ih h c ob hc
   ·rename_i t sz n f j fj hp
    obtain ⟨rfl,h⟩:=h
    split at hc
    ·rename_i e
     cases hc
     rw [← e]
     exact .inr ⟨hsn,.inr ⟨t,sz,f,j,fj,hp⟩⟩
    ·exact ih h c ob hc
   ·exact h.elim
  ·exact h.elim
theorem ent_of {nt lim:Nat} {st st2:ASt} (hE0:∀ j,lim<=j->C.E0.blk j=none/\C.E0.hdr j=none) (bs:List Nat) (mp:List (Nat × Src)) (hb:entB lim st2 bs mp=true) (hq:entQ st st2 bs mp):Ent C nt st st2:=by
 intro E w a hs
 simp only [entB,Bool.and_eq_true,List.all_eq_true,decide_eq_true_eq,Bool.or_eq_true,Bool.not_eq_true',decide_eq_false_iff_not] at hb
 obtain ⟨⟨⟨⟨hnd,hndm⟩,hfull⟩,hmp⟩,hlim⟩:=hb
 obtain ⟨hqT,hqH,hbs,hbv⟩:=hq
 obtain ⟨hndb,hnds,hdisj⟩:=noDup_append hnd
 simp only [List.all_eq_true,List.contains_eq_mem,decide_eq_true_eq] at hbs hbv
 have hvec:∀ b ∈ bs,∃ t sz n f,Heap.of st.hp b=some (.vec t sz n f):=by
  intro b hb
  have:=hbv b hb
  split at this
  ·rename_i t sz n f e; exact ⟨t,sz,n,f,e⟩
  ·cases this
 obtain ⟨E1,le1,hb1,hh1,hok1,hrel1⟩:=HeapOK.freezeAll bs E _ hs.ok.heap hndb hvec
 let F:Env:={ E1 with
  blk:=fun i=>if i < lim then E1.blk i else match srcOfId mp i with | some (.same b)=>E1.blk b | _=>none
  hdr:=fun i=>if i < lim then E1.hdr i else match srcOfId mp i with | some (.same b)=>E1.hdr b | some .nil=>some (.slice none 0 0) | none=>none }
 have hlow:∀ c,c < lim -> ∀ x,srcOfId mp c=some x->x = .same c:=by
  intro c hc x hx
  have:=(hmp _ (srcOfId_mem hx)).2
  rcases this with h | h
  ·exact absurd hc h
  ·cases x with
   | same b=>rw [show b=c by simpa using h]
   | nil=>cases h
 have hsameF:∀ c b,srcOfId mp c=some (.same b)->F.blk c=E1.blk b/\F.hdr c=E1.hdr b:=by
  intro c b h
  by_cases hc:c < lim
  ·have:=hlow c hc _ h
   cases this
   exact ⟨if_pos hc,if_pos hc⟩
  ·constructor
   ·show (if c < lim then _ else _)=_
    rw [if_neg hc,h]
   ·show (if c < lim then _ else _)=_
    rw [if_neg hc,h]
 have hnilF:∀ c,srcOfId mp c=some .nil->F.blk c=none/\F.hdr c=some (.slice none 0 0):=by
  intro c h
  by_cases hc:c < lim
  ·have:=hlow c hc _ h
   cases this
  ·constructor
   ·show (if c < lim then _ else _)=_
    rw [if_neg hc,h]
   ·show (if c < lim then _ else _)=_
    rw [if_neg hc,h]
 have he:EntEnv (Heap.of st.hp) mp bs E F:=by
  refine ⟨fun b o h=>le1.M b o h,le1.fns,fun c b h => ?_,hnilF,fun b hb t sz n f hL hd hh ob => ?_⟩
  ·have:=hsameF c b h
   rw [hb1,hh1] at this
   exact this
  ·have h0:=hrel1 b hb t sz n f hL hd hh false
   have h1:=Rel.trim (E:=E1) (F:=F) (fun _ _ h=>h) rfl h0 (fun e=>by cases e)
   cases ob with
   | false=>exact h1
   | true=>exact h1.up
 refine ⟨F,⟨⟨?_,coeT_look he hs.ok.tm st2.tm hqT (fun b hm=>hbs b (List.mem_append_left _ hm)) (by rw [List.all_eq_true]; exact hfull),⟨hs.ok.defers.1,DefL.monoM (F:=F) (fun b o h=>le1.M b o h) hs.ok.defers.2⟩,hs.ok.size⟩,fun j hj => ?_⟩⟩
 ·have hE0F:C.E0.le F:=by
   refine ⟨fun b o h=>hok1.le.M b o h,fun b k h => ?_,fun b u h => ?_,hok1.le.fns⟩
   ·have hlt:b < lim:=by
     rcases Nat.lt_or_ge b lim with hh | hh
     ·exact hh
     ·rw [(hE0 b hh).1] at h; cases h
    show (if b < lim then _ else _)=_
    rw [if_pos hlt]; exact hok1.le.blk b k h
   ·have hlt:b < lim:=by
     rcases Nat.lt_or_ge b lim with hh | hh
     ·exact hh
     ·rw [(hE0 b hh).2] at h; cases h
    show (if b < lim then _ else _)=_
    rw [if_pos hlt]; exact hok1.le.hdr b u h
  have hLb:∀ c b,srcOfId mp c=some (.same b)->dropIds (Heap.of st.hp) bs b=Heap.of st.hp b:=by
   intro c b h
   exact dropIds_other _ _ _ (fun hm=>hdisj b hm (sames_mem (srcOfId_mem h)))
  refine ⟨hok1.os,hok1.tape,hok1.output,hok1.size,hok1.pres,fun b o h=>hok1.mem b o h,hE0F,fun b o h=>hok1.ext b o h,?_,?_⟩
  ·intro c ob hc
   rcases coeH_get st2.hp hqH c ob hc with ⟨b,ob1,h1,h2,h3,h4⟩ | ⟨h1,⟨t,sz,f,rfl⟩ | ⟨t,sz,f,j,fj,rfl⟩⟩
   ·have hown:=hok1.own b ob1 (by rw [hLb c b h1]; exact h2)
    obtain ⟨hfb,hfh⟩:=hsameF c b h1
    cases ob1 with
    | cells ty cs =>
     cases ob with
     | cells ty' ds =>
      obtain ⟨rfl,hcc,hna⟩:=h3
      obtain ⟨k,us,hk,hav,hM,hw,hr⟩:=hown
      refine ⟨k,us,by rw [hfb]; exact hk,hav,hM,hw,?_⟩
      have hown0:=hs.ok.heap.own b _ h2
      obtain ⟨k0,us0,hk0,_,_,hw0,hr0⟩:=hown0
      rw [← hb1,hk] at hk0
      cases hk0
      rw [hw] at hw0
      have:us=us0:=by simpa using hw0
      rw [this]
      exact coeCL_rel he hcc (fun x hx=>hbs x (List.mem_append_right _ (h4 x hx))) (fun _ _ _ _=>noAnyL_not hna) hr0
     | fz=>exact h3.elim
     | vec=>exact h3.elim
     | vecx=>exact h3.elim
     | mp=>exact h3.elim
    | fz=>cases ob <;> exact h3.elim
    | mp ty q es =>
     cases ob with
     | mp ty' q' es' =>
      obtain ⟨rfl,rfl,rfl⟩:=h3
      obtain ⟨k,kt,et,hh,hbk,ha,hM,h1,h2,h3,ho⟩:=hown
      exact ⟨k,kt,et,by rw [hfh]; exact hh,by rw [hfb]; exact hbk,ha,hM,h1,h2,h3,ho⟩
     | fz=>exact h3.elim
     | vec=>exact h3.elim
     | vecx=>exact h3.elim
     | cells=>exact h3.elim
    | vecx ty sz n f j fj =>
     obtain ⟨hd,g,hh,ho,hl,hr,hj,hbk,hav⟩:=hown
     have hown0:=hs.ok.heap.own b _ h2
     obtain ⟨hd0,g0,hh0,ho0,hl0,hr0,hj0,hbk0,_⟩:=hown0
     rw [← hh1,hh] at hh0
     cases hh0
     have hgg:∀ i,i < n->g i=g0 i:=by
      intro i hi
      have hx:=World.ownsRow_unique ho ho0
      refine List.ext_getElem? fun k => ?_
      by_cases hk:k < sz
      ·have e1:=flat_get g sz n hl i k hi hk
       have e2:=flat_get g0 sz n hl0 i k hi hk
       rw [hx] at e1
       rw [← e1,e2]
      ·rw [List.getElem?_eq_none (by rw [hl i hi]; omega),List.getElem?_eq_none (by rw [hl0 i hi]; omega)]
     cases ob with
     | vecx ty' sz' n' f' j' fj' =>
      obtain ⟨rfl,rfl,rfl,rfl,hff,hcc,hna⟩:=h3
      refine ⟨hd,g,by rw [hfh]; exact hh,ho,hl,fun i hi hij=>by rw [← hff i hi hij]; exact RelL.trim (E:=E1) (F:=F) (fun _ _ h=>h) rfl (hr i hi hij),fun hjn => ?_,by rw [hfb]; exact hbk,hav⟩
      rw [hgg j hjn]
      exact coeCL_rel he hcc (fun x hx=>hbs x (List.mem_append_right _ (h4 x hx))) (fun _ _ _ _=>noAnyL_not hna) (hj0 hjn)
     | vec ty' sz' n' f' =>
      obtain ⟨rfl,rfl,rfl,hff,hcc,hna,hcap⟩:=h3
      refine ⟨hd,g,by rw [hfh]; exact hh,ho,hl,fun i hi => ?_,by rw [hfb]; exact hbk,hav⟩
      by_cases hij:i=j
      ·subst hij
       rw [hgg i hi]
       exact capOK_down hcap (coeCL_rel he hcc (fun x hx=>hbs x (List.mem_append_right _ (h4 x hx))) (fun _ _ _ _=>noAnyL_not hna) (hj0 hi))
      ·rw [← hff i hi hij]; exact RelL.trim (E:=E1) (F:=F) (fun _ _ h=>h) rfl (hr i hi hij)
     | fz=>exact h3.elim
     | mp=>exact h3.elim
     | cells=>exact h3.elim
    | vec ty sz n f =>
     cases ob with
     | vec ty' sz' n' f' =>
      obtain ⟨rfl,rfl,rfl,hff⟩:=h3
      obtain ⟨hd,g,hh,ho,hl,hr,hbk,hav⟩:=hown
      exact ⟨hd,g,by rw [hfh]; exact hh,ho,hl,fun i hi=>by rw [← hff i hi]; exact RelL.trim (E:=E1) (F:=F) (fun _ _ h=>h) rfl (hr i hi),by rw [hfb]; exact hbk,hav⟩
     | vecx ty' sz' n' f' j' fj' =>
      obtain ⟨rfl,rfl,rfl,hff,hcc,hna⟩:=h3
      obtain ⟨hd,g,hh,ho,hl,hr,hbk,hav⟩:=hown
      have hown0:=hs.ok.heap.own b _ h2
      obtain ⟨hd0,g0,hh0,ho0,hl0,hr0,hbk0,_⟩:=hown0
      rw [← hh1,hh] at hh0
      cases hh0
      have hgg:∀ i,i < n->g i=g0 i:=by
       intro i hi
       have hx:=World.ownsRow_unique ho ho0
       refine List.ext_getElem? fun k => ?_
       by_cases hk:k < sz
       ·have e1:=flat_get g sz n hl i k hi hk
        have e2:=flat_get g0 sz n hl0 i k hi hk
        rw [hx] at e1
        rw [← e1,e2]
       ·rw [List.getElem?_eq_none (by rw [hl i hi]; omega),List.getElem?_eq_none (by rw [hl0 i hi]; omega)]
      refine ⟨hd,g,by rw [hfh]; exact hh,ho,hl,fun i hi hij=>by rw [← hff i hi hij]; exact RelL.trim (E:=E1) (F:=F) (fun _ _ h=>h) rfl (hr i hi),fun hjn => ?_,by rw [hfb]; exact hbk,hav⟩
      rw [hgg j' hjn]
      exact coeCL_rel he hcc (fun x hx=>hbs x (List.mem_append_right _ (h4 x hx))) (fun _ _ _ _=>noAnyL_not hna) (hr0 j' hjn).up
     | fz=>exact h3.elim
     | mp=>exact h3.elim
     | cells=>exact h3.elim
   ·obtain ⟨hfb,hfh⟩:=hnilF c h1
    exact ⟨.slice none 0 0,fun _=>[],hfh,World.ownsRow_nil w 0 t sz,fun i hi=>absurd hi (by omega),fun i hi=>absurd hi (by omega),hfb,fun k hk=>by cases hk⟩
   ·obtain ⟨hfb,hfh⟩:=hnilF c h1
    exact ⟨.slice none 0 0,fun _=>[],hfh,World.ownsRow_nil w 0 t sz,fun i hi=>absurd hi (by omega),fun i hi=>absurd hi (by omega),fun h=>absurd h (by omega),hfb,fun k hk=>by cases hk⟩
  ·intro i j k hij hi hj hik hjk
   have get:∀ c,Heap.of st2.hp c ≠ none->F.blk c=some k -> ∃ b,srcOfId mp c=some (.same b)/\dropIds (Heap.of st.hp) bs b ≠ none/\E1.blk b=some k:=by
    intro c hc hk
    cases e:Heap.of st2.hp c with
    | none=>exact absurd e hc
    | some ob =>
     rcases coeH_get st2.hp hqH c ob e with ⟨b,ob1,h1,h2,_⟩ | ⟨h1,_⟩
     ·exact ⟨b,h1,by rw [hLb c b h1,h2]; simp,by rw [← (hsameF c b h1).1]; exact hk⟩
     ·rw [(hnilF c h1).1] at hk; cases hk
   obtain ⟨b1,s1,n1,k1⟩:=get i hi hik
   obtain ⟨b2,s2,n2,k2⟩:=get j hj hjk
   refine hok1.sep b1 b2 k (fun e=>hij ?_) n1 n2 k1 k2
   rw [← e] at s2
   exact sames_inj hnds s1 s2
 ·have hge:¬ j < lim:=by omega
  have hno:srcOfId mp j=none:=by
   cases e:srcOfId mp j with
   | none=>rfl
   | some x=>have:=(hmp _ (srcOfId_mem e)).1; omega
  constructor
  ·show (if j < lim then _ else _)=_
   rw [if_neg hge,hno]
  ·show (if j < lim then _ else _)=_
   rw [if_neg hge,hno]
end
end Go.Ab
namespace Go.Ab
open Go Go.RowKit
def isCM:Obj->Bool
 | .cells .. => true
 | .map .. => true
 | _=>false
structure Env.leC (E F:Env):Prop where
 M:∀ b o,E.M b=some o->isCM o=true->F.M b=some o
 blk:∀ b k,E.blk b=some k->F.blk b=some k
 hdr:∀ b u,E.hdr b=some u->F.hdr b=some u
 fns:F.fns=E.fns
theorem mcell_sub {M N:Nat->Option Obj} (h:∀ b o,M b=some o->isCM o=true->N b=some o) {b off k:Nat} {us:List Value} (hk:k < us.length) (hm:mcell M b off=us[k]?):mcell N b off=us[k]? := by
 rw [List.getElem?_eq_getElem hk] at hm ⊢
 unfold mcell at hm ⊢
 split at hm
 ·rename_i c _ _ e; rw [h _ _ e rfl]; exact hm
 ·cases hm
theorem Rel.monoC {E F:Env} (le:E.leC F):∀ {o:Bool} {av:AV} {u:Value},Rel E o av u->Rel F o av u:=by
 intro o av u h
 refine Rel.rec (motive_1:=fun o av u _=>Rel F o av u) (motive_2:=fun o cs us _=>RelL F o cs us) ?_ ?_ ?_ ?_ ?_ ?_ ?_ ?_ ?_ ?_ ?_ ?_ ?_ ?_ ?_ ?_ ?_ ?_ ?_ ?_ ?_ ?_ ?_ ?_ ?_ ?_ ?_ ?_ h
 ·intro o u; exact .any u
 ·intro o u; exact .lit u
 ·intro o cs us _ ih; exact .agg ih
 ·intro o cs us hl _ ih; exact .tup hl ih
 ·intro o sz f; exact .slN sz f
 ·intro o sz n f b off cap g hn hc hg hm _ ih
  exact .slA sz n f b off cap g hn hc hg (fun i k hi hk=>mcell_sub le.M (by rw [hg i hi]; exact hk) (hm i k hi hk)) ih
 ·intro o sz f a; exact .slZ sz f a
 ·intro o sz f; exact .slcN sz f
 ·intro o sz n f b off g hc hg hm _ ih
  exact .slcA sz n f b off g hc hg (fun i k hi hk=>mcell_sub le.M (by rw [hg i hi]; exact hk) (hm i k hi hk)) ih
 ·intro o sz f a; exact .slcZ sz f a
 ·intro o cs us b off hm _ ih; exact .rp b off (fun k hk=>mcell_sub le.M hk (hm k hk)) ih
 ·intro o f cs us b off hm _ ih; exact .mth b off (fun k hk=>mcell_sub le.M hk (hm k hk)) ih
 ·intro o f cs us _ ih; exact .mtv ih
 ·intro o g cs h; exact .optN cs h
 ·intro o g cs us b off hg hm _ ih; exact .optS b off hg (fun k hk=>mcell_sub le.M hk (hm k hk)) ih
 ·intro o g sz n f h; exact .oslN sz n f h
 ·intro o g sz n f a k c hg _ ih; exact .oslS a k c hg ih
 ·intro o P kt et q es b a c hM hw; exact .mz b a c (le.M _ _ hM rfl) hw
 ·intro k b p h; exact .ptr b p (le.blk _ _ h)
 ·intro u b h h1; exact .vec b (le.hdr _ _ h) h1
 ·intro k n c b i sz p h; exact .vp b i sz p (le.hdr _ _ h)
 ·intro k cap b p sz n h hn; exact .win b p sz n (le.blk _ _ h) ⟨hn.1,hn.2.1,fun hc=>le.hdr _ _ (hn.2.2 hc)⟩
 ·intro u k h; exact .fn k (by rw [le.fns]; exact h)
 ·intro o caps us f hl _ ih; exact .clo f hl ih
 ·intro o g v u _ h2 ih; exact .cnd ih h2
 ·intro o; exact .nil
 ·intro o v u cs us _ h1 _ ih ihs; exact .cons ih h1 ihs
 ·intro o sz n f cs us g hg _ _ ih ihs; exact .arr g hg ih ihs
theorem RelL.monoC {E F:Env} (le:E.leC F) {o:Bool} {cs:List AV} {us:List Value} (h:RelL E o cs us):RelL F o cs us:=by
  have:=Rel.monoC le (Rel.agg h)
  generalize hz:us.toArray=z at this
  cases this with
  | agg h' => rename_i us'; have : us = us' := by simpa using hz
              rw [this]; exact h'
theorem OwnOB.moveC {C C2:Ctx} {E E2:Env} {w w2:World} {id:Nat} {ob:OB} (h:OwnOB C E w id ob) (hP:C2.P=C.P) (hav:∀ k,C.avail k->C2.avail k) (le:E.leC E2) (hb:E2.blk id=E.blk id)
  (hw:∀ k,E.M k=none->w2.heap[k]? = w.heap[k]?) (hN:∀ k,E.M k=none->E2.M k=none):OwnOB C2 E2 w2 id ob:=by
 cases ob with
 | cells t cs =>
  obtain ⟨k,us,hk,ha,hm,hw',hr'⟩:=h
  exact ⟨k,us,by rw [hb]; exact hk,hav k ha,hN k hm,by rw [hw k hm]; exact hw',hr'.monoC le⟩
 | fz t cs =>
  obtain ⟨k,us,hk,hm,hr'⟩:=h
  exact ⟨k,us,by rw [hb]; exact hk,le.M _ _ hm rfl,hr'.monoC le⟩
 | vec t sz n f =>
  obtain ⟨hd,g,hh',ho,hl,hr',hbk,hav'⟩:=h
  refine ⟨hd,g,le.hdr _ _ hh',⟨ho.1,?_⟩,hl,fun i hi=>(hr' i hi).monoC le,by rw [hb]; exact hbk,fun k hk=>⟨hav k (hav' k hk).1,hN k (hav' k hk).2⟩⟩
  rcases ho.2 with h0 | ⟨g0,cap,cur,hv,h1,h2,h3⟩
  ·exact .inl h0
  ·subst hv
   exact .inr ⟨g0,cap,cur,rfl,h1,by rw [hw g0 (hav' g0 rfl).2]; exact h2,h3⟩
 | mp t q es =>
  obtain ⟨k,kt,et,hh',hbk,ha,hm,h1,h2,h3,es',clock,ho,hf⟩:=h
  exact ⟨k,kt,et,le.hdr _ _ hh',by rw [hb]; exact hbk,hav k ha,hN k hm,by rw [hP]; exact h1,by rw [hP]; exact h2,by rw [hP]; exact h3,es',clock,by rw [hw k hm]; exact ho,by rw [hP]; exact hf⟩
 | vecx t sz n f j fj =>
  obtain ⟨hd,g,hh',ho,hl,hr',hj,hbk,hav'⟩:=h
  refine ⟨hd,g,le.hdr _ _ hh',⟨ho.1,?_⟩,hl,fun i hi hij=>(hr' i hi hij).monoC le,fun h=>(hj h).monoC le,by rw [hb]; exact hbk,fun k hk=>⟨hav k (hav' k hk).1,hN k (hav' k hk).2⟩⟩
  rcases ho.2 with h0 | ⟨g0,cap,cur,hv,h1,h2,h3⟩
  ·exact .inl h0
  ·subst hv
   exact .inr ⟨g0,cap,cur,rfl,h1,by rw [hw g0 (hav' g0 rfl).2]; exact h2,h3⟩
theorem OwnOB.moveAv {C C2:Ctx} {E:Env} {w:World} {id:Nat} {ob:OB} (h:OwnOB C E w id ob) (hav:∀ k,C.avail k/\E.M k=none->C2.avail k) (hP:C2.P=C.P:=by rfl):OwnOB C2 E w id ob:=by
 cases ob with
 | cells t cs=>obtain ⟨k,us,hk,ha,hm,hw',hr'⟩:=h; exact ⟨k,us,hk,hav k ⟨ha,hm⟩,hm,hw',hr'⟩
 | fz t cs=>exact h
 | vec t sz n f=>obtain ⟨hd,g,h1,h2,h3,h4,h5,h6⟩:=h; exact ⟨hd,g,h1,h2,h3,h4,h5,fun k hk=>⟨hav k (h6 k hk),(h6 k hk).2⟩⟩
 | mp t q es=>obtain ⟨k,kt,et,h1,h2,h3,h4,h5,h6,h7,h8⟩:=h; exact ⟨k,kt,et,h1,h2,hav k ⟨h3,h4⟩,h4,by rw [hP]; exact h5,by rw [hP]; exact h6,by rw [hP]; exact h7,by rw [hP]; exact h8⟩
 | vecx t sz n f j fj=>obtain ⟨hd,g,h1,h2,h3,h4,h5,h6,h7⟩:=h; exact ⟨hd,g,h1,h2,h3,h4,h5,h6,fun k hk=>⟨hav k (h7 k hk),(h7 k hk).2⟩⟩
theorem HeapOK.putL {C C2:Ctx} {E E2:Env} {H:Heap} {w:World} (h:HeapOK C E H w) {l:Nat} {o o':Obj} {m:Option Obj} (hl:E.M l=some o) (hoc:isCM o=false) (hm:m=none ∨ m=some o')
  (hM:E2.M=fun b=>if b=l then m else E.M b) (hb:E2.blk=E.blk) (hh:E2.hdr=E.hdr) (hf:E2.fns=E.fns) (hP:C2.P=C.P) (hw0:C2.w0=C.w0) (hav:∀ b,C.avail b->C2.avail b)
  (hpres:∀ b,¬ C2.avail b->(w.putObj l o').heap[b]? = C2.w0.heap[b]?) (hE0:C2.E0.le E2) (hext:∀ b o,E2.M b=some o->C2.E0.M b=some o ∨ C2.avail b):HeapOK C2 E2 H (w.putObj l o'):=by
 have hlt:l < w.heap.size:=(Array.getElem?_eq_some_iff.1 (h.mem l o hl)).1
 have le:E.leC E2:=⟨fun b o1 hb1 hc=>by
   rw [hM]
   show (if b=l then m else E.M b)=some o1
   have hne:b ≠ l:=fun e=>by rw [e,hl] at hb1; cases hb1; rw [hoc] at hc; cases hc
   rw [if_neg hne]; exact hb1,fun _ _ e=>by rw [hb]; exact e,fun _ _ e=>by rw [hh]; exact e,hf⟩
 refine ⟨h.os.trans (by rw [hw0]),h.tape.trans (by rw [hw0]),h.output.trans (by rw [hw0]),by rw [World.putObj_size,hw0]; exact h.size,hpres,?_,hE0,hext,?_,?_⟩
 ·intro b o1 hb1
  rw [hM] at hb1
  replace hb1:(if b=l then m else E.M b)=some o1:=hb1
  by_cases e:b=l
  ·rw [if_pos e] at hb1
   rcases hm with hm | hm
   ·rw [hm] at hb1; cases hb1
   ·rw [hm] at hb1; cases hb1; rw [e]; exact World.putObj_heap_same hlt
  ·rw [if_neg e] at hb1
   rw [World.putObj_heap_other e]
   exact h.mem b o1 hb1
 ·intro i ob hi
  refine (h.own i ob hi).moveC hP hav le (by rw [hb]) (fun k hk=>World.putObj_heap_other (fun e=>by rw [e,hl] at hk; cases hk)) (fun k hk => ?_)
  rw [hM]
  show (if k=l then m else E.M k)=none
  rw [if_neg (fun e=>by rw [e,hl] at hk; cases hk)]; exact hk
 ·intro i j k hij hi hj h1 h2
  rw [hb] at h1 h2
  exact h.sep i j k hij hi hj h1 h2
theorem DefL.mem {E0 E:Env}:∀ {ds:List Deferred},DefL E0 E ds -> ∀ d ∈ ds,∃ D,d = { target := .collected D,args := #[] } /\ E.M D=some (.deferred (some []))
 | [],_,_,h=>by cases h
 | _ :: _,⟨⟨D,h1,h2,_⟩,h4⟩,d,h=>by
  cases h with
  | head=>exact ⟨D,h1,h2⟩
  | tail _ h=>exact h4.mem d h
theorem Sat.take {C:Ctx} {E:Env} {nt:Nat} {st:ASt} {w:World} {tmps:Array Value} {D:Nat} {ds:List Deferred} (h:Sat C E nt st w { tmps:=tmps,defers:={ target := .collected D,args := #[] } :: ds }) :
    w.heap[D]? = some (.deferred (some [])) /\ ∃ E',Sat C E' nt st (w.putObj D (.deferred none)) { tmps:=tmps,defers:=ds }:=by
  obtain ⟨⟨D',h1,h2,h3,h4⟩,h5⟩:=h.ok.defers.2
  have hD:D'=D:=by injection h1 with e1 _; injection e1 with e; exact e.symm
  subst hD
  have hh:=h.ok.heap
  refine ⟨hh.mem _ _ h2,{ E with M:=fun b=>if b=D' then none else E.M b },?_⟩
  have hav:C.avail D':=(hh.ext _ _ h2).resolve_left (by rw [h3]; simp)
  have hlE:E.leC { E with M:=fun b=>if b=D' then none else E.M b }:=⟨fun b o hb hc=>by
      show (if b=D' then none else E.M b)=some o
      rw [if_neg (fun e=>by rw [e,h2] at hb; cases hb; cases hc)]; exact hb,fun _ _ h=>h,fun _ _ h=>h,rfl⟩
  have hok:=hh.putL (C2:=C) (E2:={ E with M:=fun b=>if b=D' then none else E.M b }) (o' := .deferred none) (m:=none) h2 rfl (.inl rfl) rfl rfl rfl rfl rfl rfl (fun _ h=>h)
    (fun b hb=>by rw [World.putObj_heap_other (fun e=>hb (by rw [e]; exact hav))]; exact hh.pres b hb)
    ⟨fun b o hb=>by
      show (if b=D' then none else E.M b)=some o
      rw [if_neg (fun e=>by rw [e,h3] at hb; cases hb)]; exact hh.le.M b o hb,hh.le.blk,hh.le.hdr,hh.le.fns⟩
    (fun b o hb=>by
      replace hb:(if b=D' then none else E.M b)=some o:=hb
      split at hb
      · cases hb
      · exact hh.ext b o hb)
  have key:∀ (l:List Deferred),(∀ d' ∈ l,d' ≠ ({ target := .collected D',args := #[] }:Deferred))->DefL C.E0 E l->DefL C.E0 { E with M:=fun b=>if b=D' then none else E.M b } l:=by
    intro l
    induction l with
    | nil=>intro _ _; trivial
    | cons d r ih =>
      rintro hne ⟨⟨D2,g1,g2,g3,g4⟩,g5⟩
      refine ⟨⟨D2,g1,?_,g3,g4⟩,ih (fun d' hd'=>hne d' (List.mem_cons_of_mem _ hd')) g5⟩
      show (if D2=D' then none else E.M D2)=_
      rw [if_neg (fun e=>hne d List.mem_cons_self (by rw [g1,e]))]; exact g2
  refine ⟨⟨hok,fun t=>(h.ok.tm t).monoC hlE,⟨fun hd => ?_,key ds (fun d' hd'=>by rw [← h1]; exact fun e=>h4 d' hd' (by rw [e])) h5⟩,h.ok.size⟩,fun j hj=>h.fresh j hj⟩
  have:=h.ok.defers.1 hd
  cases this
theorem leaves_marks {C:Ctx} {P:Program} {nt:Nat} {st:ASt} {fn:Func} {tmps:Array Value} {R:Ending->World->Prop} (fin:∀ E w,Sat C E nt st w { tmps:=tmps,defers:=[] } -> LeavesInM Fence.wide 0 P fn tmps R [] .returning w) :
  ∀ (ds:List Deferred) (E:Env) (w:World),Sat C E nt st w { tmps:=tmps,defers:=ds } -> LeavesInM Fence.wide 0 P fn tmps R ds .returning w:=by
 intro ds
 induction ds with
 | nil=>intro E w h; exact fin E w h
 | cons d r ih =>
  intro E w h
  obtain ⟨⟨D,h1,_⟩,_⟩:=h.ok.defers.2
  subst h1
  obtain ⟨hD,E',h'⟩:=h.take
  exact ⟨by simp,.inl ⟨D,_,rfl,run_takeDeferred hD,ih E' _ h'⟩⟩
theorem callsIn_marks {P:Program} {f:FuncId} {fn:Func} {c:Code} (hf:P.funcs[f]? = some fn) (hb:fn.body=some c) {args:Array Value} {w:World} {R:Ending->World->Prop}
  (h:c.wpIn Fence.wide 0 P (bodyPostM Fence.wide 0 P fn R) { tmps:=args ++ Array.replicate (fn.ntmps - args.size) undef,defers:=[] } w):Calls P f args w R :=
 (callsIn_wide (n:=0)).1 (callsIn_of_wp_marks (F:=Fence.wide) (n:=0) hf hb trivial h)
end Go.Ab
namespace Go.Ab
open Go Go.RowKit
def resVal (T:Tab) (st:ASt):ResultVar->Option (Prop × AV)
 | .tmp t=>some (True,look st.tm t)
 | .cell t ty=>evLoad T (Heap.of st.hp) ty (look st.tm t)
def resVals (T:Tab) (st:ASt):List ResultVar->Option (Prop × List AV)
 | []=>some (True,[])
 | r :: rs =>
  match resVal T st r,resVals T st rs with
  | some (q,v),some (q',vs)=>some (q/\q',v :: vs)
  | _,_=>none
def retAV:List AV->AV
 | [v]=>v
 | vs => .tup vs
def retQ (T:Tab) (rs:List ResultVar) (st:ASt) (res:AV) (bs:List Nat):Prop :=
 match resVals T st rs with
 | some (q,vs)=>q/\(coeV (Heap.of st.hp) [] (retAV vs) res).1/\(coeV (Heap.of st.hp) [] (retAV vs) res).2.all (fun b=>bs.contains b)=true/\noDup bs=true ∧
   bs.all (fun b=>match Heap.of st.hp b with | some (.vec _ _ _ _)=>true | _=>false)=true
 | none=>False
def RetK (T:Tab) (rs:List ResultVar) (res:AV):AX->ASt->Prop
 | .exit _,_=>False
 | _,st => ∃ bs,retQ T rs st res bs
def argsTm:List AV->Nat->List (Nat × AV)
 | [],_=>[]
 | v :: r,i=>(i,v) :: argsTm r (i + 1)
theorem look_args:∀ (l:List AV) (i t:Nat),look (argsTm l i) t=if i<=t then l.getD (t - i) .any else .any:=by
 intro l
 induction l with
 | nil=>intro i t; simp [argsTm,look]
 | cons v r ih =>
  intro i t
  simp only [argsTm,look]
  by_cases e:i=t
  ·subst e; simp
  ·rw [if_neg e,ih]
   by_cases h:i<=t
   ·rw [if_pos h,if_pos (by omega)]
    have:t - i=(t - (i + 1)) + 1:=by omega
    rw [this,List.getD_cons_succ]
   ·rw [if_neg h,if_neg (by omega)]
section
variable {C:Ctx} {E:Env} {H:Heap} {w:World} {T:Tab}
theorem loadAt_addr {P:Program} {t:TypeId} {z v:Value} (h:(Instr.loadAt t z).run P w = .ok v w):(do loadVar t (← asAddr z):Sem Value).run P w = .ok v w:=by
 unfold Instr.loadAt Instr.sureAddr at h
 cases z <;> simp only [Sem.run_bind,run_stuck,Result.andThen_halt] at h <;> try (cases h; done)
 rename_i ad
 cases ad with
 | none=>simp only [run_stuck,Result.andThen_halt] at h; cases h
 | some ad=>exact h
def resRun (tmps:Array Value):ResultVar->Sem Value
 | .tmp t=>pure (tmps.getD t undef)
 | .cell x t=>do loadVar t (← asAddr (tmps.getD x undef))
theorem resVals_run (hT:Tab.ok C.P T) {nt:Nat} {st:ASt} {a:Act} (hs:Sat C E nt st w a):∀ (rs:List ResultVar) (q:Prop) (vs:List AV),resVals T st rs=some (q,vs)->q →
  ∃ us,(rs.mapM (resRun a.tmps)).run C.P w = .ok us w/\us.length=vs.length /\ ∀ k,Rel E true (vs.getD k .any) (us.getD k undef):=by
 intro rs
 induction rs with
 | nil =>
  intro q vs h _
  simp only [resVals,Option.some.injEq,Prod.mk.injEq] at h
  rw [← h.2]
  exact ⟨[],rfl,rfl,fun k=>by simp; exact .any _⟩
 | cons r rs ih =>
  intro q vs h hq
  simp only [resVals] at h
  split at h
  ·rename_i q1 v q2 vs' e1 e2
   cases h
   obtain ⟨us,h1,h2,h3⟩:=ih q2 vs' e2 hq.2
   have hr:∃ u,(resRun a.tmps r).run C.P w = .ok u w/\Rel E true v u:=by
    cases r with
    | tmp t =>
     simp only [resVal,Option.some.injEq,Prod.mk.injEq] at e1
     refine ⟨_,rfl,?_⟩
     rw [← e1.2]
     exact hs.ok.tm t
    | cell x t =>
     obtain ⟨u,hu,hr⟩:=evLoad_run hT hs.ok.heap (hs.ok.tm x) (fun _ _ h=>h) e1 hq.1
     exact ⟨u,loadAt_addr hu,hr⟩
   obtain ⟨u,hu,hr⟩:=hr
   refine ⟨u :: us,?_,by simp [h2],fun k => ?_⟩
   ·rw [List.mapM_cons]
    simp only [Sem.run_bind,hu,Result.andThen_ok,h1,Sem.run_pure]
   ·cases k with
    | zero=>exact hr
    | succ k=>simpa using h3 k
  ·cases h
theorem results_run {P:Program} {fn:Func} {tmps:Array Value} {us:List Value} (h:(fn.results.toList.mapM (resRun tmps)).run P w = .ok us w) :
  (results fn tmps).run P w = .ok (if h:us.length=1 then us[0] else .tuple us.toArray) w:=by
 have hm:(fn.results.mapM (resRun tmps)).run P w = .ok us.toArray w:=by
  rw [← Array.toArray_toList (xs:=fn.results),List.mapM_toArray]
  simp only [Sem.run_map,h,Result.andThen_ok]
 have he:results fn tmps=(do let vs ← fn.results.mapM (resRun tmps); pure (if h:vs.size=1 then vs[0] else .tuple vs)):=by
  unfold results
  congr 1
 rw [he]
 simp only [Sem.run_bind,hm,Result.andThen_ok,Sem.run_pure]
 simp
theorem triple_of {P:Program} {f:FuncId} {fn:Func} {c:Code} (hf:P.funcs[f]? = some fn) (hb:fn.body=some c) (hcall:Callable P f) (hT:Tab.ok P T) (s:CallSpec) (hin:s.hin = []) (hout:s.hout = [])
  (hargs:idsL s.args = []) (hres:fullV s.res=true) (hn:s.args.length<=fn.ntmps) (hfn:∀ E E':Env,E'.M=E.M->E'.fns=E.fns->s.fnok E->s.fnok E')
  (body:s.pre -> ∀ C:Ctx,C.P=P/\C.ro=none/\C.df=true->s.fnok C.E0->(∀ j,C.E0.blk j=none/\C.E0.hdr j=none)->SWP C fn.ntmps c (RetK T fn.results.toList s.res) ⟨argsTm s.args 0,[],0⟩):Triple P f s:=by
 refine ⟨hcall,fun hpre E w vs hfnok hok hlen hrel _ => ?_⟩
 let E0:Env:={ E with blk:=fun _=>none,hdr:=fun _=>none }
 let C:Ctx:={ calleeCtx P E0 w [] with df:=true }
 have hok0:HeapOK C E0 (Heap.of []) w:=⟨rfl,rfl,rfl,Nat.le_refl _,fun _ _=>rfl,fun b o h=>hok.mem b o h,Env.le.refl _,fun b o h => .inl h,(fun i ob h=>by cases h),(fun i j k _ h=>absurd rfl h)⟩
 have htm:∀ t,Rel E0 true (look (argsTm s.args 0) t) ((vs.toArray ++ Array.replicate (fn.ntmps - vs.toArray.size) undef).getD t undef):=by
  intro t
  rw [look_args,if_pos (Nat.zero_le _),Nat.sub_zero]
  rcases Nat.lt_or_ge t vs.length with ht | ht
  ·have h1:(vs.toArray ++ Array.replicate (fn.ntmps - vs.toArray.size) undef).getD t undef=vs.getD t undef:=by
    simp only [Array.getD_eq_getD_getElem?,List.getD_eq_getElem?_getD]
    rw [Array.getElem?_append_left (by simpa using ht)]
    simp
   rw [h1]
   exact Rel.trim (E:=E) (F:=E0) (fun _ _ h=>h) rfl (hrel t) (fun _=>idsL_get hargs t)
  ·rw [List.getD_eq_getElem?_getD,List.getElem?_eq_none (by omega)]
   exact .any _
 have hsat:Sat C E0 fn.ntmps ⟨argsTm s.args 0,[],0⟩ w { tmps:=vs.toArray ++ Array.replicate (fn.ntmps - vs.toArray.size) undef,defers:=[] } :=
  ⟨⟨hok0,htm,⟨fun _=>rfl,trivial⟩,by simp; omega⟩,fun j _=>⟨rfl,rfl⟩⟩
 have hsw:=body hpre C ⟨rfl,rfl,rfl⟩ (hfn E E0 rfl rfl hfnok) (fun j=>⟨rfl,rfl⟩) E0 w _ hsat
 refine callsIn_marks hf hb (wpIn_mono (F:=Fence.wide) hsw ?_)
 rintro e a0 w0' ⟨x,E0',st',rfl,hs0,hk⟩
 have fin:∀ (E':Env) (w':World) (a':Act),Sat C E' fn.ntmps st' w' a'->(∃ bs,retQ T fn.results.toList st' s.res bs) -> ∃ v,(results fn a'.tmps).run P w' = .ok v w'/\CallPost P s E w (.returned v) w':=by
  rintro E' w' a' hs' ⟨bs,hq⟩
  unfold retQ at hq
  split at hq
  ·rename_i q rvs hrv
   obtain ⟨hq0,hco,hcb,hnd,hbv⟩:=hq
   obtain ⟨us,hus,hul,hur⟩:=resVals_run (C:=C) hT hs' _ q rvs hrv hq0
   have hrun:=results_run (P:=P) hus
   refine ⟨_,hrun,?_⟩
   have hrv':Rel E' true (retAV rvs) (if h:us.length=1 then us[0] else .tuple us.toArray):=by
    cases rvs with
    | nil =>
     have:us = []:=List.eq_nil_of_length_eq_zero hul
     subst this
     exact .tup rfl (fun k=>hur k)
    | cons v r =>
     cases r with
     | nil =>
      have hul1:us.length=1:=hul
      rw [dif_pos hul1]
      have:=hur 0
      simp only [List.getD_cons_zero] at this
      rw [List.getD_eq_getElem?_getD,List.getElem?_eq_getElem (by omega)] at this
      exact this
     | cons v2 r =>
      have hne:¬ us.length=1:=by rw [hul]; simp
      rw [dif_neg hne]
      exact .tup (cs:=v :: v2 :: r) hul hur
   simp only [List.all_eq_true,List.contains_eq_mem,decide_eq_true_eq] at hcb hbv
   have hvec:∀ b ∈ bs,∃ t sz n f,Heap.of st'.hp b=some (.vec t sz n f):=by
    intro b hb
    have:=hbv b hb
    split at this
    ·rename_i t sz n f e; exact ⟨t,sz,n,f,e⟩
    ·cases this
   obtain ⟨E1,le1,hb1,hh1,hok1,hrel1⟩:=HeapOK.freezeAll bs E' _ hs'.ok.heap hnd hvec
   let F:Env:={ E with M:=E1.M }
   have lF:E.le F:=⟨fun b o h=>hok1.le.M b o h,fun _ _ h=>h,fun _ _ h=>h,rfl⟩
   have hfns:F.fns=E'.fns:=by
    show E.fns=E'.fns
    exact (hs'.ok.heap.le.fns.symm:E0.fns=E'.fns)
   have he:EntEnv (Heap.of st'.hp) [] bs E' F:=by
    refine ⟨fun b o h=>le1.M b o h,hfns,(fun c b h=>by cases h),(fun c h=>by cases h),fun b hb t sz n f hL hd hh ob => ?_⟩
    have h0:=hrel1 b hb t sz n f hL hd hh false
    have h1:=Rel.trim (E:=E1) (F:=F) (fun _ _ h=>h) (by rw [hfns]; exact le1.fns.symm) h0 (fun e=>by cases e)
    cases ob with
    | false=>exact h1
    | true=>exact h1.up
   have hresF:=coeV_rel he rfl hco (fun b hb=>hcb b hb) hres hrv'
   refine ⟨_,F,rfl,?_,hresF,fun j _=>⟨rfl,rfl⟩⟩
   rw [hin,hout]
   refine ⟨hok1.os,hok1.tape,hok1.output,hok1.size,fun b hb=>hok1.pres b ?_,fun b o h=>hok1.mem b o h,lF,fun b o h => ?_,(fun i ob h=>by cases h),(fun i j k _ h=>absurd rfl h)⟩
   ·rintro (h | ⟨q,hq,_⟩)
    ·exact hb (.inl h)
    ·cases hq
   ·rcases hok1.ext b o h with h | h
    ·exact .inl h
    ·rcases h with h | ⟨q,hq,_⟩
     ·exact .inr (.inl h)
     ·cases hq
  ·exact hq.elim
 have go:(∃ bs,retQ T fn.results.toList st' s.res bs)->LeavesInM Fence.wide 0 P fn a0.tmps (CallPost P s E w) a0.defers .returning w0':=fun hq =>
  leaves_marks (C:=C) (fun E1 w1 h1=>fin E1 w1 { tmps:=a0.tmps,defers:=[] } h1 hq) a0.defers E0' w0' hs0
 cases x with
 | normal=>exact go hk
 | ret=>exact go hk
 | exit id=>exact hk.elim
end
end Go.Ab
namespace Go.Ab
open Go Go.RowKit
abbrev iv (n:Int):AV := .lit (.int .i64 n)
abbrev bv (b:Bool):AV := .lit (.bool b)
abbrev nilN:List Nat:=[]
abbrev nilP:List PS:=[]
abbrev nilA:List AV:=[]
abbrev nilv:AV := .lit (.slice none 0 0)
structure LoopAnn where
 X:Type
 S:X->ASt
 I:X->Prop
 mu:X->Nat
 x0:X
 nx:X->X
structure Hint where
 X:Type
 M:X->List (Nat × AV)
 H:X->List (Nat × OB):=fun _=>[]
 I:X->Prop:=fun _=>True
 mu:X->Nat
 x0:X
 nx:X->X
def Hint.ann (h:Hint) (kt:List (Nat × AV)) (kh:List (Nat × OB)) (n:Nat):LoopAnn where
 X:=h.X
 S:=fun x=>⟨kt ++ h.M x,kh ++ h.H x,n⟩
 I:=h.I
 mu:=h.mu
 x0:=h.x0
 nx:=h.nx
def plainV:AV->Bool
 | .cnd _ _=>false
 | v=>(ids v).isEmpty
def plainB:OB->Bool
 | .cells _ cs=>(idsL cs).isEmpty && noAnyL cs
 | .vec _ _ _ _=>true
 | .mp _ _ _=>true
 | _=>false
theorem coeZ_refl (v:AV):coeZ v v:=by
 cases v <;> first | exact ⟨rfl,rfl,fun _ _=>rfl⟩ | (unfold coeZ; split <;> simp_all)
theorem coeZL_refl:∀ vs:List AV,coeZL vs vs
 | []=>trivial
 | v :: vs=>⟨coeZ_refl v,coeZL_refl vs⟩
theorem coeK_refl (mp:List (Nat × Src)) {v:AV} (h:ids v = []):coeK mp v v:=by
 cases v <;> first | exact ⟨rfl,h⟩ | (simp [ids] at h)
theorem coeKL_refl (mp:List (Nat × Src)):∀ {vs:List AV},idsL vs = []->coeKL mp vs vs:=by
 intro vs
 induction vs with
 | nil=>intro _; trivial
 | cons v vs ih =>
  intro h
  simp only [idsL,List.append_eq_nil_iff] at h
  exact ⟨coeK_refl mp h.1,ih h.2⟩
theorem coeC_refl (L:Nat->Option OB) (mp:List (Nat × Src)) {v:AV} (h:ids v = []):(coeC L mp v v).1/\(coeC L mp v v).2 = []:=by
 cases v <;> simp [coeC,ids] at h ⊢ <;> first | exact h | (constructor <;> rfl) | exact fun _=>coeZL_refl _ | exact coeKL_refl mp h | skip
theorem coeCL_refl (L:Nat->Option OB) (mp:List (Nat × Src)):∀ {vs:List AV},idsL vs = []->(coeCL L mp vs vs).1/\(coeCL L mp vs vs).2 = []:=by
 intro vs
 induction vs with
 | nil=>intro _; exact ⟨trivial,rfl⟩
 | cons v vs ih =>
  intro h
  simp only [idsL,List.append_eq_nil_iff] at h
  obtain ⟨h1,h2⟩:=coeC_refl L mp h.1
  obtain ⟨h3,h4⟩:=ih h.2
  exact ⟨⟨h1,h3⟩,by simp only [coeCL,h2,h4]; rfl⟩
theorem coeS_refl (L:Nat->Option OB) (mp:List (Nat × Src)) {v:AV} (h:ids v = []):(coeS L mp v v).1/\(coeS L mp v v).2 = []:=by
 cases v with
 | agg cs=>exact coeCL_refl L mp (by simpa [ids] using h)
 | _=>exact coeC_refl L mp h
theorem coeSL_refl (L:Nat->Option OB) (mp:List (Nat × Src)):∀ {vs:List AV},idsL vs = []->(coeSL L mp vs vs).1/\(coeSL L mp vs vs).2 = []:=by
 intro vs
 induction vs with
 | nil=>intro _; exact ⟨trivial,rfl⟩
 | cons v vs ih =>
  intro h
  simp only [idsL,List.append_eq_nil_iff] at h
  obtain ⟨h1,h2⟩:=coeS_refl L mp h.1
  obtain ⟨h3,h4⟩:=ih h.2
  exact ⟨⟨h1,h3⟩,by simp only [coeSL,h2,h4]; rfl⟩
theorem coeV_refl (L:Nat->Option OB) (mp:List (Nat × Src)) {v:AV} (h:plainV v=true):(coeV L mp v v).1/\(coeV L mp v v).2 = []:=by
 cases v with
 | cnd g v=>cases h
 | tup vs=>exact coeSL_refl L mp (by simpa [plainV,ids] using h)
 | clo f vs =>
  obtain ⟨h1,h2⟩:=coeSL_refl L mp (vs:=vs) (by simpa [plainV,ids] using h)
  exact ⟨⟨rfl,h1⟩,h2⟩
 | _=>exact coeS_refl L mp (by simpa [plainV] using h)
theorem coeB_refl (L:Nat->Option OB) (mp:List (Nat × Src)) {v:OB} (h:plainB v=true):(coeB L mp v v).1/\(coeB L mp v v).2 = []:=by
 cases v with
 | cells t cs =>
  simp only [plainB,Bool.and_eq_true,List.isEmpty_iff] at h
  obtain ⟨h1,h2⟩:=coeCL_refl L mp h.1
  exact ⟨⟨rfl,h1,h.2⟩,h2⟩
 | fz=>cases h
 | vec=>exact ⟨⟨rfl,rfl,rfl,fun _ _=>rfl⟩,rfl⟩
 | mp=>exact ⟨⟨rfl,rfl,rfl⟩,rfl⟩
 | vecx=>cases h
def coeTK (L:Nat->Option OB) (mp:List (Nat × Src)) (kt:List Nat) (tm:Nat->AV):List (Nat × AV)->Prop × List Nat
 | []=>(True,[])
 | p :: r =>
  if kt.contains p.1 then ((tm p.1=p.2/\plainV p.2=true)/\(coeTK L mp kt tm r).1,(coeTK L mp kt tm r).2)
  else ((coeV L mp (tm p.1) p.2).1/\(coeTK L mp kt tm r).1,(coeV L mp (tm p.1) p.2).2 ++ (coeTK L mp kt tm r).2)
def coeHK (L:Nat->Option OB) (mp:List (Nat × Src)) (kh:List Nat):List (Nat × OB)->Prop × List Nat
 | []=>(True,[])
 | p :: r =>
  match srcOfId mp p.1 with
  | some (.same b) =>
   match L b with
   | some ob =>
    if kh.contains p.1 then ((ob=p.2/\plainB p.2=true)/\(coeHK L mp kh r).1,(coeHK L mp kh r).2)
    else ((coeB L mp ob p.2).1/\(coeHK L mp kh r).1,(coeB L mp ob p.2).2 ++ (coeHK L mp kh r).2)
   | none=>(False,[])
  | some .nil =>
   match p.2 with
   | .vec _ _ n _=>(n=0/\(coeHK L mp kh r).1,(coeHK L mp kh r).2)
   | .vecx _ _ n _ _ _=>(n=0/\(coeHK L mp kh r).1,(coeHK L mp kh r).2)
   | _=>(False,[])
  | none=>(False,[])
theorem coeTK_T {L:Nat->Option OB} {mp:List (Nat × Src)} {kt:List Nat} {tm:Nat->AV}:∀ {l:List (Nat × AV)},(coeTK L mp kt tm l).1->(coeT L mp tm l).1/\(coeT L mp tm l).2=(coeTK L mp kt tm l).2:=by
 intro l
 induction l with
 | nil=>intro _; exact ⟨trivial,rfl⟩
 | cons p r ih =>
  intro h
  simp only [coeTK] at h ⊢
  simp only [coeT]
  by_cases e:kt.contains p.1=true
  ·rw [if_pos e] at h ⊢
   obtain ⟨⟨h1,h2⟩,h3⟩:=h
   obtain ⟨h4,h5⟩:=coeV_refl L mp h2
   obtain ⟨h6,h7⟩:=ih h3
   rw [h1]
   exact ⟨⟨h4,h6⟩,by rw [h5,h7]; rfl⟩
  ·rw [if_neg e] at h ⊢
   obtain ⟨h6,h7⟩:=ih h.2
   exact ⟨⟨h.1,h6⟩,by rw [h7]⟩
theorem coeHK_H {L:Nat->Option OB} {mp:List (Nat × Src)} {kh:List Nat}:∀ {l:List (Nat × OB)},(coeHK L mp kh l).1->(coeH L mp l).1/\(coeH L mp l).2=(coeHK L mp kh l).2:=by
 intro l
 induction l with
 | nil=>intro _; exact ⟨trivial,rfl⟩
 | cons p r ih =>
  intro h
  simp only [coeHK] at h ⊢
  simp only [coeH]
  split at h
  ·rename_i b hs
   split at h
   ·rename_i ob hL
    simp only [hs,hL]
    by_cases e:kh.contains p.1=true
    ·rw [if_pos e] at h ⊢
     obtain ⟨⟨h1,h2⟩,h3⟩:=h
     obtain ⟨h4,h5⟩:=coeB_refl L mp h2
     obtain ⟨h6,h7⟩:=ih h3
     rw [h1]
     exact ⟨⟨h4,h6⟩,by rw [h5,h7]; rfl⟩
    ·rw [if_neg e] at h ⊢
     obtain ⟨h6,h7⟩:=ih h.2
     exact ⟨⟨h.1,h6⟩,by rw [h7]⟩
   ·exact h.elim
  ·rename_i hs
   split at h
   ·rename_i hp
    simp only [hs,hp]
    obtain ⟨h1,h2⟩:=h
    obtain ⟨h6,h7⟩:=ih h2
    exact ⟨⟨h1,h6⟩,h7⟩
   ·rename_i hp
    simp only [hs,hp]
    obtain ⟨h1,h2⟩:=h
    obtain ⟨h6,h7⟩:=ih h2
    exact ⟨⟨h1,h6⟩,h7⟩
   ·exact h.elim
  ·exact h.elim
def entK (st st2:ASt) (bs:List Nat) (mp:List (Nat × Src)) (kt kh:List Nat):Prop :=
 (coeTK (Heap.of st.hp) mp kt (look st.tm) st2.tm).1/\(coeHK (Heap.of st.hp) mp kh st2.hp).1 ∧
 ((coeTK (Heap.of st.hp) mp kt (look st.tm) st2.tm).2 ++ (coeHK (Heap.of st.hp) mp kh st2.hp).2).all (fun b=>bs.contains b)=true/\bs.all (fun b=>match Heap.of st.hp b with | some (.vec _ _ _ _)=>true | _=>false)=true
theorem entK_Q {st st2:ASt} {bs:List Nat} {mp:List (Nat × Src)} {kt kh:List Nat} (h:entK st st2 bs mp kt kh):entQ st st2 bs mp:=by
 obtain ⟨h1,h2,h3,h4⟩:=h
 obtain ⟨a1,a2⟩:=coeTK_T h1
 obtain ⟨b1,b2⟩:=coeHK_H h2
 exact ⟨a1,b1,by rw [a2,b2]; exact h3,h4⟩
section
variable {C:Ctx} {nt:Nat} {K:AX->ASt->Prop} {st:ASt}
theorem ent_q {st2:ASt} (hE0:∀ j,C.E0.blk j=none/\C.E0.hdr j=none) (bs:List Nat) (mp:List (Nat × Src)) (kt kh:List Nat) (q:Prop) (hb:entB 0 st2 bs mp=true) (he:entK st st2 bs mp kt kh=q) (hq:q):Ent C nt st st2 :=
 ent_of (fun j _=>hE0 j) bs mp hb (entK_Q (by rw [he]; exact hq))
theorem ret_q {T:Tab} {rs:List ResultVar} {res:AV} (bs:List Nat) (q:Prop) (he:retQ T rs st res bs=q) (hq:q):RetK T rs res .ret st:=⟨bs,by rw [he]; exact hq⟩
end
end Go.Ab
namespace Go.Ab
open Go Go.RowKit
def subP (b:Nat) (cs:List AV):AV->AV
 | .ptr c []=>if c=b then .rp cs else .ptr c []
 | v=>v
theorem look_sub (g:AV->AV) (hg:g .any = .any):∀ (l:List (Nat × AV)) (t:Nat),look (l.map fun p=>(p.1,g p.2)) t=g (look l t):=by
 intro l
 induction l with
 | nil=>intro t; exact hg.symm
 | cons p r ih =>
  intro t
  simp only [List.map_cons,look]
  split
  ·rfl
  ·exact ih t
theorem of_filter {l:List (Nat × OB)} {b i:Nat} {ob:OB} (h:Heap.of (l.filter fun p=>p.1 != b) i=some ob):(Heap.of l).put b none i=some ob:=by
 induction l with
 | nil=>cases h
 | cons p r ih =>
  unfold Heap.put at ih ⊢
  by_cases e:p.1=b
  ·rw [List.filter_cons_of_neg (by simp [e])] at h
   have h1:=ih h
   split at h1
   ·cases h1
   ·rename_i hi
    rw [if_neg hi,Heap.of_cons,if_neg (fun e'=>hi (by rw [← e',e]))]
    exact h1
  ·rw [List.filter_cons_of_pos (by simp [e]),Heap.of_cons] at h
   split at h
   ·rename_i e'
    rw [if_neg (fun e2=>e (by rw [e',e2])),Heap.of_cons,if_pos e']
    exact h
   ·rename_i e'
    have h1:=ih h
    split at h1
    ·cases h1
    ·rename_i hi
     rw [if_neg hi,Heap.of_cons,if_neg e']
     exact h1
section
variable {C:Ctx} {nt:Nat} {K:AX->ASt->Prop} {st:ASt}
theorem ent_fz (b:Nat) (t:TypeId) (cs:List AV) (st2:ASt) (hb:Heap.of st.hp b=some (.cells t cs)) (hc:cs.all capOK=true)
  (h2:(⟨st.tm.map (fun p=>(p.1,subP b cs p.2)),st.hp.filter (fun p=>p.1 != b),st.nx⟩:ASt)=st2):Ent C nt st st2:=by
 subst h2
 intro E w a hs
 obtain ⟨k,us,hk,hav,hM,hw,hr⟩:=hs.ok.heap.own b _ hb
 have le:=Env.le_freeze (o := .cells us.toArray t (0,0)) hM
 have hok:=hs.ok.heap.freeze b k _ (by show Heap.of st.hp b ≠ none; rw [hb]; simp) hk hav hM hw
 refine ⟨E.freeze k (.cells us.toArray t (0,0)),⟨⟨hok.drop (fun i ob hi=>of_filter hi),fun tt => ?_,⟨hs.ok.defers.1,hs.ok.defers.2.mono le⟩,hs.ok.size⟩,fun j hj=>hs.fresh j hj⟩⟩
 have h0:=hs.ok.tm tt
 simp only at h0 ⊢
 rw [look_sub (subP b cs) rfl]
 generalize look st.tm tt=v at h0
 generalize a.tmps.getD tt undef=u at h0
 unfold subP
 split
 ·rename_i c
  split
  ·rename_i e
   subst e
   cases h0 with
   | ptr _ _ hk' =>
    rw [hk] at hk'
    cases hk'
    refine .rp (us:=us) k 0 (fun j hj => ?_) (((Rel.agg (capOK_down hc hr)).mono le |> fun h => ?_))
    ·simp [mcell,frozen_self]
    ·generalize hz:us.toArray=z at h
     cases h with
     | agg h' =>
      rename_i us'
      have:us=us':=by simpa using hz
      rw [this]; exact h'
  ·exact h0.mono le
 ·exact h0.mono le
theorem of_mapH (g:OB->OB):∀ (l:List (Nat × OB)) (i:Nat),Heap.of (l.map fun p=>(p.1,g p.2)) i=(Heap.of l i).map g:=by
 intro l
 induction l with
 | nil=>intro i; rfl
 | cons p r ih =>
  intro i
  rw [List.map_cons,Heap.of_cons,Heap.of_cons]
  split
  ·rfl
  ·exact ih i
def subM (b:Nat) (v0:AV):AV->AV
 | .vec c=>if c=b then v0 else .vec c
 | v=>v
def subMH (b:Nat) (v0:AV):OB->OB
 | .cells t ds => .cells t (ds.map (subM b v0))
 | ob=>ob
theorem subM_rel {F:Env} {b:Nat} {u0:Value} {v0:AV} (hk:F.hdr b=some u0) (hr:Rel F true v0 u0) {v:AV} {u:Value} (h:Rel F true v u):Rel F true (subM b v0 v) u:=by
 unfold subM
 split
 ·split
  ·rename_i e
   subst e
   cases h with
   | vec _ h' _=>rw [hk] at h'; cases h'; exact hr
  ·exact h
 ·exact h
theorem subM_relL {F:Env} {b:Nat} {u0:Value} {v0:AV} (hk:F.hdr b=some u0) (hr:Rel F true v0 u0):∀ {ds:List AV} {us:List Value},RelL F true ds us->RelL F true (ds.map (subM b v0)) us:=by
 intro ds
 induction ds with
 | nil=>intro us h; exact h
 | cons d ds ih =>
  intro us h
  cases h with
  | cons h0 h1 hs=>exact .cons (subM_rel hk hr h0) h1 (ih hs)
  | arr g hg h0 hs=>exact .arr g hg h0 (ih hs)
theorem ent_mz {T:Tab} (hT:Tab.ok C.P T) (b:Nat) (t kt et:TypeId) (q:IntKind) (es:List (Int × Int)) (st2:ASt) (hb:Heap.of st.hp b=some (.mp t q es)) (hk0:T.kind t=some (.mp kt et q))
  (h2:(⟨st.tm.map (fun p=>(p.1,subM b (.mz C.P kt et q es) p.2)),(st.hp.filter (fun p=>p.1 != b)).map (fun p=>(p.1,subMH b (.mz C.P kt et q es) p.2)),st.nx⟩:ASt)=st2):Ent C nt st st2:=by
 subst h2
 intro E w a hs
 obtain ⟨k,kt',et',hh,hk,hav,hM,hu1,hu2,hu3,a0,c0,hw,hfit,hsz,hD⟩:=hs.ok.heap.own b _ hb
 obtain ⟨hu,_⟩:C.P.underlying t=some (.map kt et)/\_:=Tab.kind_ok hT hk0
 rw [hu] at hu1
 cases hu1
 have le:=Env.le_freeze (o := .map a0 c0) hM
 have hok:=hs.ok.heap.freeze b k _ (by show Heap.of st.hp b ≠ none; rw [hb]; simp) hk hav hM hw
 have hok1:=hok.drop (H':=Heap.of (st.hp.filter fun p=>p.1 != b)) (fun i ob hi=>of_filter hi)
 have hkF:(E.freeze k (.map a0 c0)).hdr b=some (.map (some k)):=hh
 have hrF:Rel (E.freeze k (.map a0 c0)) true (.mz C.P kt et q es) (.map (some k)):=by
  refine .mz k a0 c0 (frozen_self _ _ _) fun w' hw'=>⟨a0,c0,hw',hfit,hsz,hD⟩
 have hof:=of_mapH (subMH b (.mz C.P kt et q es)) (st.hp.filter fun p=>p.1 != b)
 have hsome:∀ i,Heap.of ((st.hp.filter fun p=>p.1 != b).map fun p=>(p.1,subMH b (.mz C.P kt et q es) p.2)) i ≠ none->Heap.of (st.hp.filter fun p=>p.1 != b) i ≠ none:=fun i h e=>h (by rw [hof,e]; rfl)
 refine ⟨E.freeze k (.map a0 c0),⟨⟨⟨hok1.os,hok1.tape,hok1.output,hok1.size,hok1.pres,hok1.mem,hok1.le,hok1.ext,fun i ob hi => ?_,fun i j x hij hi hj=>hok1.sep i j x hij (hsome i hi) (hsome j hj)⟩,fun tt => ?_,⟨hs.ok.defers.1,hs.ok.defers.2.mono le⟩,hs.ok.size⟩,fun j hj=>hs.fresh j hj⟩⟩
 ·replace hi:Heap.of ((st.hp.filter fun p=>p.1 != b).map fun p=>(p.1,subMH b (.mz C.P kt et q es) p.2)) i=some ob:=hi
  rw [hof] at hi
  cases e:Heap.of (st.hp.filter fun p=>p.1 != b) i with
  | none=>rw [e] at hi; cases hi
  | some ob0 =>
   rw [e] at hi
   cases hi
   have ho:=hok1.own i ob0 e
   cases ob0 with
   | cells ty ds =>
    obtain ⟨k',us',h1,h2,h3,h4,h5⟩:=ho
    exact ⟨k',us',h1,h2,h3,h4,subM_relL hkF hrF h5⟩
   | _=>exact ho
 ·have h0:=(hs.ok.tm tt).mono le
  show Rel _ true (look (st.tm.map fun p=>(p.1,subM b (.mz C.P kt et q es) p.2)) tt) _
  rw [look_sub (subM b (.mz C.P kt et q es)) rfl]
  exact subM_rel hkF hrF h0
end
end Go.Ab
namespace Go.Ab
open Go Go.RowKit
def fnokOf (P:Program) (k:Nat) {ι:Type} (A:ι->List AV) (R:ι->AV):Env->Prop:=fun E => ∀ u,E.fns k u -> ∀ i,FnOK P E u (A i) (R i)
theorem FnOK.congr {P:Program} {E E':Env} (hM:E'.M=E.M) {u:Value} {A:List AV} {R:AV} (h:FnOK P E u A R):FnOK P E' u A R:=by
 obtain ⟨f,caps,hu,hc,hk⟩:=h
 exact ⟨f,caps,hu,hc,fun E2 w vs h1=>hk E2 w vs (fun b o hb=>h1 b o (by rw [hM]; exact hb))⟩
theorem fnokOf_congr {P:Program} {k:Nat} {ι:Type} {A:ι->List AV} {R:ι->AV}:∀ E E':Env,E'.M=E.M->E'.fns=E.fns->fnokOf P k A R E->fnokOf P k A R E' :=
 fun E E' hM hF h u hu i=>FnOK.congr hM (h u (by rw [← hF]; exact hu) i)
theorem fnok_clo {P:Program} {E:Env} {f:FuncId} {A:List AV} {R:AV} {caps:List AV} (s:CallSpec) (ht:Triple P f s) (hs:s.args=A ++ caps) (hpre:s.pre) (hfn:∀ E,s.fnok E) (hin:s.hin = []) (hout:s.hout = []) (hres:s.res=R)
  (hids:idsL caps = []) (hno:noFnL caps=true) {u:Value} (hu:Rel E true (.clo f caps) u):FnOK P E u A R:=by
 cases hu with
 | clo _ hl hk =>
  rename_i us
  refine ⟨f,us,rfl,ht.1,fun E2 w vs hM hmem hlen hvs => ?_⟩
  have hok:HeapOK (calleeCtx P E2 w s.hin) E2 (Heap.of s.hin) w:=by
   rw [hin]
   exact ⟨rfl,rfl,rfl,Nat.le_refl _,fun _ _=>rfl,hmem,Env.le.refl _,fun b o h => .inl h,(fun i ob h=>by cases h),fun i j k _ h=>absurd rfl h⟩
  have hcap:∀ k,Rel E2 true (caps.getD k .any) (us.getD k undef):=by
   intro k
   have h1:=Rel.trim (E:=E) (F:={ E2 with fns:=E.fns }) hM rfl (hk k) (fun _=>idsL_get hids k)
   exact h1.setFns E2.fns (fun _=>noFnL_get hno k)
  have hall:∀ k,Rel E2 true (s.args.getD k .any) ((vs ++ us).getD k undef):=by
   intro k
   rw [hs,getD_append_av,getD_append_value,hlen]
   split
   ·exact hvs k
   ·exact hcap _
  have:=ht.2 hpre E2 w (vs ++ us) (hfn _) hok (by rw [hs,List.length_append,List.length_append,hlen,hl]) hall (by rw [hout]; intro p hp; cases hp)
  refine this.mono ?_
  intro e w' h
  unfold CallPost at h ⊢
  rw [hin,hout,hres] at h
  exact h
theorem fnok_arg {P:Program} {E0:Env} {k:Nat} (j:Nat) {ι:Type} {A:ι->List AV} {R:ι->AV} {args vals:List AV} (huniq:∀ j',args[j']? = some (.fn k)->j'=j)
  (h:∀ E u,Rel E true (vals.getD j .any) u -> ∀ i,FnOK P E u (A i) (R i)) (E:Env) (us:List Value) (_:E0.le E) (_:us.length=args.length) (hr:∀ k,Rel E true (vals.getD k .any) (us.getD k undef)):fnokOf P k A R (E.setFns (fnsOf args us)):=by
 rintro u ⟨j',h1,h2⟩ i
 have:=huniq j' h1
 subst this
 have h3:=hr j'
 rw [List.getD_eq_getElem?_getD (l:=us),h2] at h3
 exact FnOK.congr rfl (h E u h3 i)
theorem FnOK.mono {P:Program} {E E':Env} (hM:∀ b o,E.M b=some o->E'.M b=some o) {u:Value} {A:List AV} {R:AV} (h:FnOK P E u A R):FnOK P E' u A R:=by
 obtain ⟨f,caps,hu,hc,hk⟩:=h
 exact ⟨f,caps,hu,hc,fun E2 w vs h1=>hk E2 w vs (fun b o hb=>h1 b o (hM b o hb))⟩
theorem fnok_pass {P:Program} {E0:Env} {k k':Nat} (j:Nat) {ι:Type} {A:ι->List AV} {R:ι->AV} {args vals:List AV} (huniq:∀ j',args[j']? = some (.fn k')->j'=j) (hv:vals.getD j .any = .fn k) (hfn:fnokOf P k A R E0)
  (E:Env) (us:List Value) (le:E0.le E) (_:us.length=args.length) (hr:∀ k,Rel E true (vals.getD k .any) (us.getD k undef)):fnokOf P k' A R (E.setFns (fnsOf args us)):=by
 rintro u ⟨j',h1,h2⟩ i
 have:=huniq j' h1
 subst this
 have h3:=hr j'
 rw [List.getD_eq_getElem?_getD (l:=us),h2,hv] at h3
 cases h3 with
 | fn _ h=>exact FnOK.congr (E:=E) rfl (FnOK.mono le.M (hfn u (by rw [← le.fns]; exact h) i))
end Go.Ab
namespace Go.Ab
open Go Go.RowKit
def RetP (T:Tab) (rs:List ResultVar) (res:AV) (t:TypeId) (cs':List AV):AX->ASt->Prop
 | .exit _,_=>False
 | _,st=>retQ T rs st res []/\Heap.of st.hp 0=some (.cells t cs')
theorem RelL.trim' {E F:Env} (hM:∀ b o,E.M b=some o->F.M b=some o) (hf:F.fns=E.fns) {cs:List AV} {us:List Value} (hi:idsL cs = []) (h:RelL E true cs us):RelL F true cs us:=by
 have:=Rel.trim hM hf (Rel.agg h) (fun _=>by simpa [ids] using hi)
 generalize hz:us.toArray=z at this
 cases this with
 | agg h' =>
  rename_i us'
  have:us=us':=by simpa using hz
  rw [this]; exact h'
def ptrSpec (b:Nat) (p:List PS) (rest:List AV) (t:TypeId) (cs cs':List AV) (pre:Prop) (res:AV):CallSpec :=
 { args := .ptr b p :: rest,pre:=pre,hin:=[(b,.cells t cs)],res:=res,hout:=[(b,.cells t cs')] }
theorem of_single {b i:Nat} {o ob:OB} (h:Heap.of [(b,o)] i=some ob):i=b/\ob=o:=by
 rw [Heap.of_cons] at h
 split at h
 ·rename_i e; cases h; exact ⟨e.symm,rfl⟩
 ·cases h
theorem triple_ptr {P:Program} {f:FuncId} {fn:Func} {c:Code} {T:Tab} (hf:P.funcs[f]? = some fn) (hb:fn.body=some c) (hcall:Callable P f) (hT:Tab.ok P T) (b:Nat) (p:List PS) (rest:List AV) (t:TypeId) (cs cs':List AV) (pre:Prop) (res:AV)
  (hrest:idsL rest = []) (hcs:idsL cs = []) (hcs':idsL cs' = []) (hres:fullV res=true) (hn:rest.length + 1<=fn.ntmps)
  (body:pre -> ∀ C:Ctx,C.P=P/\C.ro=none/\C.df=false->(∀ j,1<=j->C.E0.blk j=none/\C.E0.hdr j=none)->SWP C fn.ntmps c (RetP T fn.results.toList res t cs') ⟨argsTm (.ptr 0 p :: rest) 0,[(0,.cells t cs)],1⟩) :
  Triple P f (ptrSpec b p rest t cs cs' pre res):=by
 refine ⟨hcall,fun hpre E w vs _ hok hlen hrel _ => ?_⟩
 replace hpre:pre:=hpre
 replace hlen:vs.length=rest.length + 1:=hlen
 replace hrel:∀ k,Rel E true ((.ptr b p :: rest).getD k .any) (vs.getD k undef):=hrel
 obtain ⟨k,us,hbk,hav,hM,hw,hr⟩:=hok.own b (.cells t cs) (by show Heap.of [(b,OB.cells t cs)] b=_; rw [Heap.of_cons,if_pos rfl])
 let E0:Env:={ E with blk:=fun j=>if j=0 then some k else none,hdr:=fun _=>none }
 let C:Ctx:=⟨P,w,E0,fun x=>w.heap.size<=x ∨ x=k,fun _ h => .inl h,none,false⟩
 have hok0:HeapOK C E0 (Heap.of [(0,.cells t cs)]) w:=by
  refine ⟨rfl,rfl,rfl,Nat.le_refl _,fun _ _=>rfl,fun b o h=>hok.mem b o h,Env.le.refl _,fun b o h => .inl h,fun i ob h => ?_,fun i j x hij hi hj => ?_⟩
  ·obtain ⟨rfl,rfl⟩:=of_single h
   exact ⟨k,us,rfl,.inr rfl,hM,hw,RelL.trim' (E:=E) (F:=E0) (fun _ _ h=>h) rfl hcs hr⟩
  ·exfalso
   apply hij
   have h0:∀ i,Heap.of [(0,OB.cells t cs)] i ≠ none->i=0:=by
    intro i h
    cases e:Heap.of [(0,OB.cells t cs)] i with
    | none=>exact absurd e h
    | some ob=>exact (of_single e).1
   rw [h0 i hi,h0 j hj]
 have hargs:∀ t,Rel E0 true (look (argsTm (.ptr 0 p :: rest) 0) t) ((vs.toArray ++ Array.replicate (fn.ntmps - vs.toArray.size) undef).getD t undef):=by
  intro t
  rw [look_args,if_pos (Nat.zero_le _),Nat.sub_zero]
  rcases Nat.lt_or_ge t vs.length with ht | ht
  ·have h1:(vs.toArray ++ Array.replicate (fn.ntmps - vs.toArray.size) undef).getD t undef=vs.getD t undef:=by
    simp only [Array.getD_eq_getD_getElem?,List.getD_eq_getElem?_getD]
    rw [Array.getElem?_append_left (by simpa using ht)]
    simp
   rw [h1]
   have h2:=hrel t
   cases t with
   | zero =>
    simp only [List.getD_cons_zero] at h2 ⊢
    generalize vs.getD 0 undef=u at h2
    cases h2 with
    | ptr _ _ hk =>
     rw [hbk] at hk
     cases hk
     exact .ptr 0 p rfl
   | succ t =>
    simp only [List.getD_cons_succ] at h2 ⊢
    exact Rel.trim (E:=E) (F:=E0) (fun _ _ h=>h) rfl h2 (fun _=>idsL_get hrest t)
  ·rw [List.getD_eq_getElem?_getD,List.getElem?_eq_none (by simp; omega)]
   exact .any _
 have hsat:Sat C E0 fn.ntmps ⟨argsTm (.ptr 0 p :: rest) 0,[(0,.cells t cs)],1⟩ w { tmps:=vs.toArray ++ Array.replicate (fn.ntmps - vs.toArray.size) undef,defers:=[] }:=by
  refine ⟨⟨hok0,hargs,⟨fun _=>rfl,trivial⟩,by simp; omega⟩,fun j hj=>⟨?_,rfl⟩⟩
  have hj':1<=j:=hj
  show (if j=0 then some k else none)=none
  rw [if_neg (by omega)]
 have hsw:=body hpre C ⟨rfl,rfl,rfl⟩ (fun j hj=>⟨by show (if j=0 then some k else none)=none; rw [if_neg (by omega)],rfl⟩) E0 w _ hsat
 refine calls_of_wp hf hb (wp_mono (wpIn_wide.1 hsw) ?_)
 rintro e a' w' ⟨x,E',st',rfl,hs',hk⟩
 have fin:(retQ T fn.results.toList st' res []/\Heap.of st'.hp 0=some (.cells t cs'))->a'.defers = [] /\ ∃ v,(results fn a'.tmps).run P w' = .ok v w'/\CallPost P (ptrSpec b p rest t cs cs' pre res) E w (.returned v) w':=by
  rintro ⟨hq,hH⟩
  refine ⟨hs'.ok.defers.1 rfl,?_⟩
  unfold retQ at hq
  split at hq
  ·rename_i q rvs hrv
   obtain ⟨hq0,hco,hcb,hnd,hbv⟩:=hq
   obtain ⟨rus,hus,hul,hur⟩:=resVals_run (C:=C) hT hs' _ q rvs hrv hq0
   have hrun:=results_run (P:=P) hus
   refine ⟨_,hrun,?_⟩
   have hrv':Rel E' true (retAV rvs) (if h:rus.length=1 then rus[0] else .tuple rus.toArray):=by
    cases rvs with
    | nil =>
     have:rus = []:=List.eq_nil_of_length_eq_zero hul
     subst this
     exact .tup rfl (fun k=>hur k)
    | cons v r =>
     cases r with
     | nil =>
      have hul1:rus.length=1:=hul
      rw [dif_pos hul1]
      have:=hur 0
      simp only [List.getD_cons_zero] at this
      rw [List.getD_eq_getElem?_getD,List.getElem?_eq_getElem (by omega)] at this
      exact this
     | cons v2 r =>
      have hne:¬ rus.length=1:=by rw [hul]; simp
      rw [dif_neg hne]
      exact .tup (cs:=v :: v2 :: r) hul hur
   have hle:=hs'.ok.heap.le
   let F:Env:={ E with M:=E'.M }
   have hfns:F.fns=E'.fns:=by
    show E.fns=E'.fns
    exact (hle.fns.symm:E0.fns=E'.fns)
   have lF:E.le F:=⟨fun b o h=>hle.M b o h,fun _ _ h=>h,fun _ _ h=>h,rfl⟩
   have he:EntEnv (Heap.of st'.hp) [] [] E' F :=
    ⟨fun b o h=>h,hfns,(fun c b h=>by cases h),(fun c h=>by cases h),(fun b hb=>by cases hb)⟩
   simp only [List.all_eq_true,List.contains_eq_mem,decide_eq_true_eq] at hcb
   have hresF:=coeV_rel he rfl hco (fun b hb=>by have:=hcb b hb; cases this) hres hrv'
   have hcav:∀ x,C.avail x->(calleeCtx P E w [(b,OB.cells t cs)]).avail x:=by
    rintro x (h | rfl)
    ·exact .inl h
    ·exact .inr ⟨(b,OB.cells t cs),List.mem_singleton.2 rfl,hbk⟩
   refine ⟨_,F,rfl,?_,hresF,fun j _=>⟨rfl,rfl⟩⟩
   have h':=hs'.ok.heap
   refine ⟨h'.os,h'.tape,h'.output,h'.size,fun x hx=>h'.pres x (fun h=>hx (hcav x h)),fun x o h=>h'.mem x o h,lF,fun x o h => ?_,fun i ob h => ?_,fun i j y hij hi hj => ?_⟩
   ·rcases h'.ext x o h with h | h
    ·exact .inl h
    ·exact .inr (hcav x h)
   ·obtain ⟨rfl,rfl⟩:=of_single h
    obtain ⟨k',us',hb',hav',hM',hw',hr'⟩:=h'.own 0 _ hH
    have h0:E'.blk 0=some k:=hle.blk 0 k rfl
    rw [h0] at hb'
    cases hb'
    exact ⟨k,us',hbk,hcav k (.inr rfl),hM',hw',RelL.trim' (E:=E') (F:=F) (fun _ _ h=>h) hfns hcs' hr'⟩
   ·exfalso
    apply hij
    have h0:∀ i,Heap.of [(b,OB.cells t cs')] i ≠ none->i=b:=by
     intro i h
     cases e:Heap.of [(b,OB.cells t cs')] i with
     | none=>exact absurd e h
     | some ob=>exact (of_single e).1
    rw [h0 i hi,h0 j hj]
  ·exact hq.elim
 cases x with
 | normal=>exact fin hk
 | ret=>exact fin hk
 | exit id=>exact hk.elim
section
variable {C:Ctx} {nt:Nat} {K:AX->ASt->Prop} {st:ASt}
end
end Go.Ab
namespace Go.Ab
open Go Go.RowKit
theorem run_part_int {P:Program} {t:TypeId} {k:IntKind} (h:P.underlying t=some (.int k)) {xs:Array Value} {off:Nat} {v:Value} (hx:xs[off]? = some v) (w:World):(part t xs off).run P w = .ok v w:=by
 unfold part
 simp only [Sem.run_bind,Go.isAgg,run_underlying h,Result.andThen_ok,Sem.run_pure,Bool.false_eq_true,if_false,hx]
theorem eqFields_ints {P : Program} (w : World) (d : Nat) (a b : List Int) : ∀ (fs : List Field) (k : Nat), (∀ j f, fs[j]? = some f → f.offset = k + j ∧ f.name ≠ "_" ∧ P.underlying f.type = some (.int .i64)) → a.length = k + fs.length → b.length = k + fs.length →
  (Op.eqFields (d + 1) (a.map (Value.int .i64)).toArray (b.map (Value.int .i64)).toArray fs).run P w = .ok (decide (a.drop k=b.drop k)) w:=by
 intro fs
 induction fs with
 | nil =>
  intro k _ h1 h2
  rw [List.drop_of_length_le (by simp at h1; omega),List.drop_of_length_le (by simp at h2; omega)]
  simp [Op.eqFields]
 | cons f fs ih =>
  intro k hf h1 h2
  obtain ⟨ho,hn,hu⟩:=hf 0 f rfl
  simp only [List.length_cons] at h1 h2
  have ha:k < a.length:=by omega
  have hb:k < b.length:=by omega
  have hx:(a.map (Value.int .i64)).toArray[f.offset]? = some (.int .i64 a[k]):=by rw [ho]; simp [ha]
  have hy:(b.map (Value.int .i64)).toArray[f.offset]? = some (.int .i64 b[k]):=by rw [ho]; simp [hb]
  rw [Op.eqFields,if_pos hn]
  simp only [Sem.run_bind,run_part_int hu hx,run_part_int hu hy,Result.andThen_ok,run_equalIn_int w d f.type .i64 .i64 _ _ hu]
  have key:(a.drop k=b.drop k) ↔ (a[k]=b[k]/\a.drop (k + 1)=b.drop (k + 1)):=by
   rw [List.drop_eq_getElem_cons ha,List.drop_eq_getElem_cons hb,List.cons.injEq]
  by_cases e:a[k]=b[k]
  ·have e1:(a[k] == b[k])=true:=by simpa using e
   rw [e1]
   simp only [Bool.not_true,Bool.false_eq_true,if_false]
   rw [ih (k + 1) (fun j g hj=>by have:=hf (j + 1) g (by simpa using hj); exact ⟨by omega,this.2⟩) (by omega) (by omega)]
   rw [decide_eq_decide.2 (key.trans (and_iff_right e))]
  ·have e1:(a[k] == b[k])=false:=by simpa using e
   rw [e1,decide_eq_false (fun h=>e (key.1 h).1)]
   simp
def isI64:Option TypeDesc->Bool
 | some (.int .i64)=>true
 | _=>false
def fldsOK (P:Program):Nat->List Field->Bool
 | _,[]=>true
 | k, f :: fs => decide (f.offset = k) && (decide (f.name ≠ "_") && (isI64 (P.underlying f.type) && fldsOK P (k + 1) fs))
theorem flds_ok {P : Program} : ∀ (fs : List Field) (k : Nat), fldsOK P k fs = true → ∀ j f, fs[j]? = some f → f.offset = k + j ∧ f.name ≠ "_" ∧ P.underlying f.type = some (.int .i64) := by
 intro fs
 induction fs with
 | nil=>intro k _ j f h; simp at h
 | cons g fs ih =>
  intro k h j f hj
  simp only [fldsOK,Bool.and_eq_true,decide_eq_true_eq] at h
  obtain ⟨h1,h2,h3,h4⟩:=h
  cases j with
  | zero =>
   simp only [List.getElem?_cons_zero,Option.some.injEq] at hj
   subst hj
   refine ⟨by omega,h2,?_⟩
   unfold isI64 at h3
   split at h3
   ·rename_i e; exact e
   ·cases h3
  | succ j =>
   have:=ih (k + 1) h4 j f (by simpa using hj)
   exact ⟨by omega,this.2⟩
theorem flat_ints {P:Program} {t:TypeId} {n:Nat} (hl:(P.fieldsOf t).toList.length=n) (hu:P.underlying t=some (.struct (P.fieldsOf t))) (hp:P.stoodInHeld t=false) (hg:P.eqGuardType P.depth t=false) (hfs:fldsOK P 0 (P.fieldsOf t).toList=true):FlatEq P t n:=by
 refine ⟨hg,fun w a b h1 h2 => ?_⟩
 rw [run_equalIn_agg w 9999 t _ _ hu hp,eqFields_ints w 9998 a b _ 0 (flds_ok _ 0 hfs) (by omega) (by omega)]
 simp
theorem flat_nest {P:Program} {t s:TypeId} {m n:Nat} {f0 f1:Field} (hf:(P.fieldsOf t).toList = [f0,f1]) (hu:P.underlying t=some (.struct (P.fieldsOf t))) (hp:P.stoodInHeld t=false) (hg:P.eqGuardType P.depth t=false)
  (h0 : f0.type = s) (o0 : f0.offset = 0) (n0 : f0.name ≠ "_") (o1 : f1.offset = m) (n1 : f1.name ≠ "_") (u1 : P.underlying f1.type = some (.int .i64)) (hn : n = m + 1)
  (ls:(P.fieldsOf s).toList.length=m) (us:P.underlying s=some (.struct (P.fieldsOf s))) (ps:P.stoodInHeld s=false) (fs:fldsOK P 0 (P.fieldsOf s).toList=true) (hs:∃ i,P.info? s=some i/\i.size=m):FlatEq P t n:=by
 refine ⟨hg,fun w a b h1 h2 => ?_⟩
 subst h0; subst hn
 have hz:(sizeOf f0.type).run P w = .ok m w:=by
  obtain ⟨i,hi,e⟩:=hs
  simp [Go.sizeOf,typeInfo,hi,e]
 have hpart:∀ l:List Int,l.length=m + 1->(part f0.type (l.map (Value.int .i64)).toArray f0.offset).run P w = .ok (.agg ((l.take m).map (Value.int .i64)).toArray) w:=by
  intro l hl
  unfold part
  simp only [Sem.run_bind,Go.isAgg,run_underlying us,Result.andThen_ok,Sem.run_pure,if_true,hz,o0]
  congr 2
  simp [List.map_take]
 have hx:∀ l:List Int,∀ hl:l.length=m + 1,(l.map (Value.int .i64)).toArray[f1.offset]? = some (.int .i64 (l[m]'(by omega))):=by
  intro l hl; rw [o1]; simp [hl]
 rw [run_equalIn_agg w 9999 t _ _ hu hp,hf,Op.eqFields,if_pos n0]
 simp only [Sem.run_bind,hpart a h1,hpart b h2,Result.andThen_ok]
 rw [run_equalIn_agg w 9998 f0.type _ _ us ps,eqFields_ints w 9997 (a.take m) (b.take m) _ 0 (flds_ok _ 0 fs) (by rw [List.length_take]; omega) (by rw [List.length_take]; omega)]
 simp only [List.drop_zero,Result.andThen_ok]
 have key:a=b ↔ a.take m=b.take m/\a[m]'(by omega)=b[m]'(by omega):=by
  constructor
  ·intro h; subst h; exact ⟨rfl,rfl⟩
  ·rintro ⟨e1,e2⟩
   have ea:a=a.take m ++ [a[m]'(by omega)]:=by
    rw [List.take_append_getElem,List.take_of_length_le (by omega)]
   have eb:b=b.take m ++ [b[m]'(by omega)]:=by
    rw [List.take_append_getElem,List.take_of_length_le (by omega)]
   exact ea.trans ((by rw [e1,e2]:a.take m ++ [a[m]'(by omega)]=b.take m ++ [b[m]'(by omega)]).trans eb.symm)
 by_cases e:a.take m=b.take m
 ·rw [decide_eq_true e]
  simp only [Bool.not_true,Bool.false_eq_true,if_false]
  rw [Op.eqFields,if_pos n1]
  simp only [Sem.run_bind,run_part_int u1 (hx a h1),run_part_int u1 (hx b h2),Result.andThen_ok,run_equalIn_int w 9998 f1.type .i64 .i64 _ _ u1]
  by_cases e2:a[m]'(by omega)=b[m]'(by omega)
  ·have e3:(a[m]'(by omega) == b[m]'(by omega))=true:=by simpa using e2
   rw [e3,decide_eq_true (key.2 ⟨e,e2⟩)]
   simp [Op.eqFields]
  ·have e3:(a[m]'(by omega) == b[m]'(by omega))=false:=by simpa using e2
   rw [e3,decide_eq_false (fun h=>e2 (key.1 h).2)]
   simp
 ·rw [decide_eq_false e,decide_eq_false (fun h=>e (key.1 h).1)]
  simp
def nestB (P:Program) (s:TypeId) (m:Nat):List Field->Bool
 | [f0, f1] => decide (f0.type = s) && (decide (f0.offset = 0) && (decide (f0.name ≠ "_") && (decide (f1.offset = m) && (decide (f1.name ≠ "_") && isI64 (P.underlying f1.type)))))
 | _=>false
theorem flat_nested {P:Program} {t:TypeId} (s:TypeId) (m:Nat) {n:Nat} (hf:nestB P s m (P.fieldsOf t).toList=true) (hu:P.underlying t=some (.struct (P.fieldsOf t))) (hp:P.stoodInHeld t=false) (hg:P.eqGuardType P.depth t=false) (hn:n=m + 1)
  (ls:(P.fieldsOf s).toList.length=m) (us:P.underlying s=some (.struct (P.fieldsOf s))) (ps:P.stoodInHeld s=false) (fs:fldsOK P 0 (P.fieldsOf s).toList=true) (hs:∃ i,P.info? s=some i/\i.size=m):FlatEq P t n:=by
 match e:(P.fieldsOf t).toList,hf with
 | [f0,f1],hf =>
  simp only [nestB,Bool.and_eq_true,decide_eq_true_eq] at hf
  obtain ⟨a,b,c,d,e1,e2⟩:=hf
  refine flat_nest e hu hp hg a b c d e1 ?_ hn ls us ps fs hs
  unfold isI64 at e2
  split at e2
  ·rename_i h; exact h
  ·cases e2
 | [],hf=>cases hf
 | [_],hf=>cases hf
 | _ :: _ :: _ :: _,hf=>cases hf
end Go.Ab
namespace Go.Ab
open Go Go.RowKit Go.Proofs
def ti2:TI:=⟨.int .i64,1,8,[.lit (Value.int .i64 0)],false⟩
theorem tok2:TOK Try.prog 2 ti2:=⟨⟨Try.t2,Value.int .i64 0,by kernel_rfl,rfl,rfl,rfl,rfl,fun _ _=>(.cons (.lit _) rfl .nil)⟩,Try.underlying2,fun _=>rfl,(by intro h; cases h)⟩
def ti3:TI:=⟨.int .i64,1,8,[.lit (Value.int .i64 0)],false⟩
theorem tok3:TOK Try.prog 3 ti3:=⟨⟨Try.t3,Value.int .i64 0,by kernel_rfl,rfl,rfl,rfl,rfl,fun _ _=>(.cons (.lit _) rfl .nil)⟩,Try.underlying3,fun _=>rfl,(by intro h; cases h)⟩
def ti4:TI:=⟨.bool,1,1,[.lit (Value.bool false)],false⟩
theorem tok4:TOK Try.prog 4 ti4:=⟨⟨Try.t4,Value.bool false,by kernel_rfl,rfl,rfl,rfl,rfl,fun _ _=>(.cons (.lit _) rfl .nil)⟩,Try.underlying4,fun _=>rfl,(by intro h; cases h)⟩
def ti5:TI:=⟨.int .u8,1,1,[.lit (Value.int .u8 0)],false⟩
theorem tok5:TOK Try.prog 5 ti5:=⟨⟨Try.t5,Value.int .u8 0,by kernel_rfl,rfl,rfl,rfl,rfl,fun _ _=>(.cons (.lit _) rfl .nil)⟩,Try.underlying5,fun _=>rfl,(by intro h; cases h)⟩
def ti6:TI:=⟨.int .u8,1,1,[.lit (Value.int .u8 0)],false⟩
theorem tok6:TOK Try.prog 6 ti6:=⟨⟨Try.t6,Value.int .u8 0,by kernel_rfl,rfl,rfl,rfl,rfl,fun _ _=>(.cons (.lit _) rfl .nil)⟩,Try.underlying6,fun _=>rfl,(by intro h; cases h)⟩
def ti7:TI:=⟨.struct [(2,0),(3,1),(4,2),(6,3)],4,24,[.lit (Value.int .i64 0),.lit (Value.int .i64 0),.lit (Value.bool false),.lit (Value.int .u8 0)],false⟩
theorem tok7:TOK Try.prog 7 ti7:=⟨⟨Try.t7,.agg #[Value.int .i64 0,Value.int .i64 0,Value.bool false,Value.int .u8 0],by kernel_rfl,rfl,rfl,rfl,rfl,fun _ _=>(.cons (.lit _) rfl (.cons (.lit _) rfl (.cons (.lit _) rfl (.cons (.lit _) rfl .nil))))⟩,⟨_,Try.underlying7,rfl⟩,(by intro h; cases h),(by intro h; cases h)⟩
def ti8:TI:=⟨.struct [(2,0),(3,1),(4,2),(6,3)],4,24,[.lit (Value.int .i64 0),.lit (Value.int .i64 0),.lit (Value.bool false),.lit (Value.int .u8 0)],false⟩
theorem tok8:TOK Try.prog 8 ti8:=⟨⟨Try.t8,.agg #[Value.int .i64 0,Value.int .i64 0,Value.bool false,Value.int .u8 0],by kernel_rfl,rfl,rfl,rfl,rfl,fun _ _=>(.cons (.lit _) rfl (.cons (.lit _) rfl (.cons (.lit _) rfl (.cons (.lit _) rfl .nil))))⟩,⟨_,Try.underlying8,rfl⟩,(by intro h; cases h),(by intro h; cases h)⟩
def ti12:TI:=⟨.int .u64,1,8,[.lit (Value.int .u64 0)],false⟩
theorem tok12:TOK Try.prog 12 ti12:=⟨⟨Try.t12,Value.int .u64 0,by kernel_rfl,rfl,rfl,rfl,rfl,fun _ _=>(.cons (.lit _) rfl .nil)⟩,Try.underlying12,fun _=>rfl,(by intro h; cases h)⟩
def ti15:TI:=⟨.ptr 214,1,8,[.lit (Value.pointer none)],false⟩
theorem tok15:TOK Try.prog 15 ti15:=⟨⟨Try.t15,Value.pointer none,by kernel_rfl,rfl,rfl,rfl,rfl,fun _ _=>(.cons (.lit _) rfl .nil)⟩,Try.underlying15,fun _=>rfl,(by intro h; cases h)⟩
def ti16:TI:=⟨.ptr 217,1,8,[.lit (Value.pointer none)],false⟩
theorem tok16:TOK Try.prog 16 ti16:=⟨⟨Try.t16,Value.pointer none,by kernel_rfl,rfl,rfl,rfl,rfl,fun _ _=>(.cons (.lit _) rfl .nil)⟩,Try.underlying16,fun _=>rfl,(by intro h; cases h)⟩
def ti17:TI:=⟨.ptr 226,1,8,[.lit (Value.pointer none)],false⟩
theorem tok17:TOK Try.prog 17 ti17:=⟨⟨Try.t17,Value.pointer none,by kernel_rfl,rfl,rfl,rfl,rfl,fun _ _=>(.cons (.lit _) rfl .nil)⟩,Try.underlying17,fun _=>rfl,(by intro h; cases h)⟩
def ti18:TI:=⟨.struct [(17,0)],1,8,[.lit (Value.pointer none)],false⟩
theorem tok18:TOK Try.prog 18 ti18:=⟨⟨Try.t18,.agg #[Value.pointer none],by kernel_rfl,rfl,rfl,rfl,rfl,fun _ _=>(.cons (.lit _) rfl .nil)⟩,⟨_,Try.underlying18,rfl⟩,(by intro h; cases h),(by intro h; cases h)⟩
def ti19:TI:=⟨.struct [(17,0)],1,8,[.lit (Value.pointer none)],false⟩
theorem tok19:TOK Try.prog 19 ti19:=⟨⟨Try.t19,.agg #[Value.pointer none],by kernel_rfl,rfl,rfl,rfl,rfl,fun _ _=>(.cons (.lit _) rfl .nil)⟩,⟨_,Try.underlying19,rfl⟩,(by intro h; cases h),(by intro h; cases h)⟩
def ti21:TI:=⟨.int .i32,1,4,[.lit (Value.int .i32 0)],false⟩
theorem tok21:TOK Try.prog 21 ti21:=⟨⟨Try.t21,Value.int .i32 0,by kernel_rfl,rfl,rfl,rfl,rfl,fun _ _=>(.cons (.lit _) rfl .nil)⟩,Try.underlying21,fun _=>rfl,(by intro h; cases h)⟩
def ti22:TI:=⟨.slice 43,1,24,[.lit (Value.slice none 0 0)],false⟩
theorem tok22:TOK Try.prog 22 ti22:=⟨⟨Try.t22,Value.slice none 0 0,by kernel_rfl,rfl,rfl,rfl,rfl,fun _ _=>(.cons (.lit _) rfl .nil)⟩,Try.underlying22,fun _=>rfl,(by intro h; cases h)⟩
def ti23:TI:=⟨.slice 36,1,24,[.lit (Value.slice none 0 0)],false⟩
theorem tok23:TOK Try.prog 23 ti23:=⟨⟨Try.t23,Value.slice none 0 0,by kernel_rfl,rfl,rfl,rfl,rfl,fun _ _=>(.cons (.lit _) rfl .nil)⟩,Try.underlying23,fun _=>rfl,(by intro h; cases h)⟩
def ti24:TI:=⟨.struct [(22,0),(23,1)],2,48,[.lit (Value.slice none 0 0),.lit (Value.slice none 0 0)],false⟩
theorem tok24:TOK Try.prog 24 ti24:=⟨⟨Try.t24,.agg #[Value.slice none 0 0,Value.slice none 0 0],by kernel_rfl,rfl,rfl,rfl,rfl,fun _ _=>(.cons (.lit _) rfl (.cons (.lit _) rfl .nil))⟩,⟨_,Try.underlying24,rfl⟩,(by intro h; cases h),(by intro h; cases h)⟩
def ti25:TI:=⟨.struct [(22,0),(23,1)],2,48,[.lit (Value.slice none 0 0),.lit (Value.slice none 0 0)],false⟩
theorem tok25:TOK Try.prog 25 ti25:=⟨⟨Try.t25,.agg #[Value.slice none 0 0,Value.slice none 0 0],by kernel_rfl,rfl,rfl,rfl,rfl,fun _ _=>(.cons (.lit _) rfl (.cons (.lit _) rfl .nil))⟩,⟨_,Try.underlying25,rfl⟩,(by intro h; cases h),(by intro h; cases h)⟩
def ti26:TI:=⟨.slice 3,1,24,[.lit (Value.slice none 0 0)],false⟩
theorem tok26:TOK Try.prog 26 ti26:=⟨⟨Try.t26,Value.slice none 0 0,by kernel_rfl,rfl,rfl,rfl,rfl,fun _ _=>(.cons (.lit _) rfl .nil)⟩,Try.underlying26,fun _=>rfl,(by intro h; cases h)⟩
def ti27:TI:=⟨.struct [(25,0),(26,2),(26,3),(26,4),(3,5)],6,128,[.lit (Value.slice none 0 0),.lit (Value.slice none 0 0),.lit (Value.slice none 0 0),.lit (Value.slice none 0 0),.lit (Value.slice none 0 0),.lit (Value.int .i64 0)],false⟩
theorem tok27:TOK Try.prog 27 ti27:=⟨⟨Try.t27,.agg #[Value.slice none 0 0,Value.slice none 0 0,Value.slice none 0 0,Value.slice none 0 0,Value.slice none 0 0,Value.int .i64 0],by kernel_rfl,rfl,rfl,rfl,rfl,fun _ _=>(.cons (.lit _) rfl (.cons (.lit _) rfl (.cons (.lit _) rfl (.cons (.lit _) rfl (.cons (.lit _) rfl (.cons (.lit _) rfl .nil))))))⟩,⟨_,Try.underlying27,rfl⟩,(by intro h; cases h),(by intro h; cases h)⟩
def ti28:TI:=⟨.struct [(25,0),(26,2),(26,3),(26,4),(3,5)],6,128,[.lit (Value.slice none 0 0),.lit (Value.slice none 0 0),.lit (Value.slice none 0 0),.lit (Value.slice none 0 0),.lit (Value.slice none 0 0),.lit (Value.int .i64 0)],false⟩
theorem tok28:TOK Try.prog 28 ti28:=⟨⟨Try.t28,.agg #[Value.slice none 0 0,Value.slice none 0 0,Value.slice none 0 0,Value.slice none 0 0,Value.slice none 0 0,Value.int .i64 0],by kernel_rfl,rfl,rfl,rfl,rfl,fun _ _=>(.cons (.lit _) rfl (.cons (.lit _) rfl (.cons (.lit _) rfl (.cons (.lit _) rfl (.cons (.lit _) rfl (.cons (.lit _) rfl .nil))))))⟩,⟨_,Try.underlying28,rfl⟩,(by intro h; cases h),(by intro h; cases h)⟩
def ti30:TI:=⟨.int .i64,1,8,[.lit (Value.int .i64 0)],false⟩
theorem tok30:TOK Try.prog 30 ti30:=⟨⟨Try.t30,Value.int .i64 0,by kernel_rfl,rfl,rfl,rfl,rfl,fun _ _=>(.cons (.lit _) rfl .nil)⟩,Try.underlying30,fun _=>rfl,(by intro h; cases h)⟩
def ti35:TI:=⟨.struct [(3,0),(3,1),(3,2)],3,24,[.lit (Value.int .i64 0),.lit (Value.int .i64 0),.lit (Value.int .i64 0)],true⟩
theorem eq35:FlatEq Try.prog 35 3:=flat_ints (by kernel_rfl) (by kernel_rfl) (by kernel_rfl) (by kernel_rfl) (by kernel_rfl)
theorem tok35:TOK Try.prog 35 ti35:=⟨⟨Try.t35,.agg #[Value.int .i64 0,Value.int .i64 0,Value.int .i64 0],by kernel_rfl,rfl,rfl,rfl,rfl,fun _ _=>(.cons (.lit _) rfl (.cons (.lit _) rfl (.cons (.lit _) rfl .nil)))⟩,⟨_,Try.underlying35,rfl⟩,(by intro h; cases h),fun _=>eq35⟩
def ti36:TI:=⟨.struct [(3,0),(3,1),(3,2)],3,24,[.lit (Value.int .i64 0),.lit (Value.int .i64 0),.lit (Value.int .i64 0)],true⟩
theorem eq36:FlatEq Try.prog 36 3:=flat_ints (by kernel_rfl) (by kernel_rfl) (by kernel_rfl) (by kernel_rfl) (by kernel_rfl)
theorem tok36:TOK Try.prog 36 ti36:=⟨⟨Try.t36,.agg #[Value.int .i64 0,Value.int .i64 0,Value.int .i64 0],by kernel_rfl,rfl,rfl,rfl,rfl,fun _ _=>(.cons (.lit _) rfl (.cons (.lit _) rfl (.cons (.lit _) rfl .nil)))⟩,⟨_,Try.underlying36,rfl⟩,(by intro h; cases h),fun _=>eq36⟩
def ti42:TI:=⟨.struct [(3,0),(3,1),(3,2),(3,3)],4,32,[.lit (Value.int .i64 0),.lit (Value.int .i64 0),.lit (Value.int .i64 0),.lit (Value.int .i64 0)],true⟩
theorem eq42:FlatEq Try.prog 42 4:=flat_ints (by kernel_rfl) (by kernel_rfl) (by kernel_rfl) (by kernel_rfl) (by kernel_rfl)
theorem tok42:TOK Try.prog 42 ti42:=⟨⟨Try.t42,.agg #[Value.int .i64 0,Value.int .i64 0,Value.int .i64 0,Value.int .i64 0],by kernel_rfl,rfl,rfl,rfl,rfl,fun _ _=>(.cons (.lit _) rfl (.cons (.lit _) rfl (.cons (.lit _) rfl (.cons (.lit _) rfl .nil))))⟩,⟨_,Try.underlying42,rfl⟩,(by intro h; cases h),fun _=>eq42⟩
def ti43:TI:=⟨.struct [(3,0),(3,1),(3,2),(3,3)],4,32,[.lit (Value.int .i64 0),.lit (Value.int .i64 0),.lit (Value.int .i64 0),.lit (Value.int .i64 0)],true⟩
theorem eq43:FlatEq Try.prog 43 4:=flat_ints (by kernel_rfl) (by kernel_rfl) (by kernel_rfl) (by kernel_rfl) (by kernel_rfl)
theorem tok43:TOK Try.prog 43 ti43:=⟨⟨Try.t43,.agg #[Value.int .i64 0,Value.int .i64 0,Value.int .i64 0,Value.int .i64 0],by kernel_rfl,rfl,rfl,rfl,rfl,fun _ _=>(.cons (.lit _) rfl (.cons (.lit _) rfl (.cons (.lit _) rfl (.cons (.lit _) rfl .nil))))⟩,⟨_,Try.underlying43,rfl⟩,(by intro h; cases h),fun _=>eq43⟩
def ti50:TI:=⟨.struct [(3,0),(3,1)],2,16,[.lit (Value.int .i64 0),.lit (Value.int .i64 0)],true⟩
theorem eq50:FlatEq Try.prog 50 2:=flat_ints (by kernel_rfl) (by kernel_rfl) (by kernel_rfl) (by kernel_rfl) (by kernel_rfl)
theorem tok50:TOK Try.prog 50 ti50:=⟨⟨Try.t50,.agg #[Value.int .i64 0,Value.int .i64 0],by kernel_rfl,rfl,rfl,rfl,rfl,fun _ _=>(.cons (.lit _) rfl (.cons (.lit _) rfl .nil))⟩,⟨_,Try.underlying50,rfl⟩,(by intro h; cases h),fun _=>eq50⟩
def ti51:TI:=⟨.struct [(3,0),(3,1)],2,16,[.lit (Value.int .i64 0),.lit (Value.int .i64 0)],true⟩
theorem eq51:FlatEq Try.prog 51 2:=flat_ints (by kernel_rfl) (by kernel_rfl) (by kernel_rfl) (by kernel_rfl) (by kernel_rfl)
theorem tok51:TOK Try.prog 51 ti51:=⟨⟨Try.t51,.agg #[Value.int .i64 0,Value.int .i64 0],by kernel_rfl,rfl,rfl,rfl,rfl,fun _ _=>(.cons (.lit _) rfl (.cons (.lit _) rfl .nil))⟩,⟨_,Try.underlying51,rfl⟩,(by intro h; cases h),fun _=>eq51⟩
def ti52:TI:=⟨.struct [(3,0),(51,1),(51,3)],5,40,[.lit (Value.int .i64 0),.lit (Value.int .i64 0),.lit (Value.int .i64 0),.lit (Value.int .i64 0),.lit (Value.int .i64 0)],false⟩
theorem tok52:TOK Try.prog 52 ti52:=⟨⟨Try.t52,.agg #[Value.int .i64 0,Value.int .i64 0,Value.int .i64 0,Value.int .i64 0,Value.int .i64 0],by kernel_rfl,rfl,rfl,rfl,rfl,fun _ _=>(.cons (.lit _) rfl (.cons (.lit _) rfl (.cons (.lit _) rfl (.cons (.lit _) rfl (.cons (.lit _) rfl .nil)))))⟩,⟨_,Try.underlying52,rfl⟩,(by intro h; cases h),(by intro h; cases h)⟩
def ti53:TI:=⟨.struct [(3,0),(51,1),(51,3)],5,40,[.lit (Value.int .i64 0),.lit (Value.int .i64 0),.lit (Value.int .i64 0),.lit (Value.int .i64 0),.lit (Value.int .i64 0)],false⟩
theorem tok53:TOK Try.prog 53 ti53:=⟨⟨Try.t53,.agg #[Value.int .i64 0,Value.int .i64 0,Value.int .i64 0,Value.int .i64 0,Value.int .i64 0],by kernel_rfl,rfl,rfl,rfl,rfl,fun _ _=>(.cons (.lit _) rfl (.cons (.lit _) rfl (.cons (.lit _) rfl (.cons (.lit _) rfl (.cons (.lit _) rfl .nil)))))⟩,⟨_,Try.underlying53,rfl⟩,(by intro h; cases h),(by intro h; cases h)⟩
def ti54:TI:=⟨.slice 74,1,24,[.lit (Value.slice none 0 0)],false⟩
theorem tok54:TOK Try.prog 54 ti54:=⟨⟨Try.t54,Value.slice none 0 0,by kernel_rfl,rfl,rfl,rfl,rfl,fun _ _=>(.cons (.lit _) rfl .nil)⟩,Try.underlying54,fun _=>rfl,(by intro h; cases h)⟩
def ti55:TI:=⟨.struct [(53,0),(3,5),(51,6),(51,8),(54,10)],11,104,[.lit (Value.int .i64 0),.lit (Value.int .i64 0),.lit (Value.int .i64 0),.lit (Value.int .i64 0),.lit (Value.int .i64 0),.lit (Value.int .i64 0),.lit (Value.int .i64 0),.lit (Value.int .i64 0),.lit (Value.int .i64 0),.lit (Value.int .i64 0),.lit (Value.slice none 0 0)],false⟩
theorem tok55:TOK Try.prog 55 ti55:=⟨⟨Try.t55,.agg #[Value.int .i64 0,Value.int .i64 0,Value.int .i64 0,Value.int .i64 0,Value.int .i64 0,Value.int .i64 0,Value.int .i64 0,Value.int .i64 0,Value.int .i64 0,Value.int .i64 0,Value.slice none 0 0],by kernel_rfl,rfl,rfl,rfl,rfl,fun _ _=>(.cons (.lit _) rfl (.cons (.lit _) rfl (.cons (.lit _) rfl (.cons (.lit _) rfl (.cons (.lit _) rfl (.cons (.lit _) rfl (.cons (.lit _) rfl (.cons (.lit _) rfl (.cons (.lit _) rfl (.cons (.lit _) rfl (.cons (.lit _) rfl .nil)))))))))))⟩,⟨_,Try.underlying55,rfl⟩,(by intro h; cases h),(by intro h; cases h)⟩
def ti56:TI:=⟨.struct [(53,0),(3,5),(51,6),(51,8),(54,10)],11,104,[.lit (Value.int .i64 0),.lit (Value.int .i64 0),.lit (Value.int .i64 0),.lit (Value.int .i64 0),.lit (Value.int .i64 0),.lit (Value.int .i64 0),.lit (Value.int .i64 0),.lit (Value.int .i64 0),.lit (Value.int .i64 0),.lit (Value.int .i64 0),.lit (Value.slice none 0 0)],false⟩
theorem tok56:TOK Try.prog 56 ti56:=⟨⟨Try.t56,.agg #[Value.int .i64 0,Value.int .i64 0,Value.int .i64 0,Value.int .i64 0,Value.int .i64 0,Value.int .i64 0,Value.int .i64 0,Value.int .i64 0,Value.int .i64 0,Value.int .i64 0,Value.slice none 0 0],by kernel_rfl,rfl,rfl,rfl,rfl,fun _ _=>(.cons (.lit _) rfl (.cons (.lit _) rfl (.cons (.lit _) rfl (.cons (.lit _) rfl (.cons (.lit _) rfl (.cons (.lit _) rfl (.cons (.lit _) rfl (.cons (.lit _) rfl (.cons (.lit _) rfl (.cons (.lit _) rfl (.cons (.lit _) rfl .nil)))))))))))⟩,⟨_,Try.underlying56,rfl⟩,(by intro h; cases h),(by intro h; cases h)⟩
def ti57:TI:=⟨.slice 101,1,24,[.lit (Value.slice none 0 0)],false⟩
theorem tok57:TOK Try.prog 57 ti57:=⟨⟨Try.t57,Value.slice none 0 0,by kernel_rfl,rfl,rfl,rfl,rfl,fun _ _=>(.cons (.lit _) rfl .nil)⟩,Try.underlying57,fun _=>rfl,(by intro h; cases h)⟩
def ti58:TI:=⟨.slice 103,1,24,[.lit (Value.slice none 0 0)],false⟩
theorem tok58:TOK Try.prog 58 ti58:=⟨⟨Try.t58,Value.slice none 0 0,by kernel_rfl,rfl,rfl,rfl,rfl,fun _ _=>(.cons (.lit _) rfl .nil)⟩,Try.underlying58,fun _=>rfl,(by intro h; cases h)⟩
def ti59:TI:=⟨.slice 26,1,24,[.lit (Value.slice none 0 0)],false⟩
theorem tok59:TOK Try.prog 59 ti59:=⟨⟨Try.t59,Value.slice none 0 0,by kernel_rfl,rfl,rfl,rfl,rfl,fun _ _=>(.cons (.lit _) rfl .nil)⟩,Try.underlying59,fun _=>rfl,(by intro h; cases h)⟩
def ti60:TI:=⟨.struct [(3,0),(3,1),(57,2),(58,3),(59,4)],5,88,[.lit (Value.int .i64 0),.lit (Value.int .i64 0),.lit (Value.slice none 0 0),.lit (Value.slice none 0 0),.lit (Value.slice none 0 0)],false⟩
theorem tok60:TOK Try.prog 60 ti60:=⟨⟨Try.t60,.agg #[Value.int .i64 0,Value.int .i64 0,Value.slice none 0 0,Value.slice none 0 0,Value.slice none 0 0],by kernel_rfl,rfl,rfl,rfl,rfl,fun _ _=>(.cons (.lit _) rfl (.cons (.lit _) rfl (.cons (.lit _) rfl (.cons (.lit _) rfl (.cons (.lit _) rfl .nil)))))⟩,⟨_,Try.underlying60,rfl⟩,(by intro h; cases h),(by intro h; cases h)⟩
def ti61:TI:=⟨.struct [(3,0),(3,1),(57,2),(58,3),(59,4)],5,88,[.lit (Value.int .i64 0),.lit (Value.int .i64 0),.lit (Value.slice none 0 0),.lit (Value.slice none 0 0),.lit (Value.slice none 0 0)],false⟩
theorem tok61:TOK Try.prog 61 ti61:=⟨⟨Try.t61,.agg #[Value.int .i64 0,Value.int .i64 0,Value.slice none 0 0,Value.slice none 0 0,Value.slice none 0 0],by kernel_rfl,rfl,rfl,rfl,rfl,fun _ _=>(.cons (.lit _) rfl (.cons (.lit _) rfl (.cons (.lit _) rfl (.cons (.lit _) rfl (.cons (.lit _) rfl .nil)))))⟩,⟨_,Try.underlying61,rfl⟩,(by intro h; cases h),(by intro h; cases h)⟩
def ti73:TI:=⟨.struct [(3,0),(3,1),(3,2),(3,3),(3,4)],5,40,[.lit (Value.int .i64 0),.lit (Value.int .i64 0),.lit (Value.int .i64 0),.lit (Value.int .i64 0),.lit (Value.int .i64 0)],true⟩
theorem eq73:FlatEq Try.prog 73 5:=flat_ints (by kernel_rfl) (by kernel_rfl) (by kernel_rfl) (by kernel_rfl) (by kernel_rfl)
theorem tok73:TOK Try.prog 73 ti73:=⟨⟨Try.t73,.agg #[Value.int .i64 0,Value.int .i64 0,Value.int .i64 0,Value.int .i64 0,Value.int .i64 0],by kernel_rfl,rfl,rfl,rfl,rfl,fun _ _=>(.cons (.lit _) rfl (.cons (.lit _) rfl (.cons (.lit _) rfl (.cons (.lit _) rfl (.cons (.lit _) rfl .nil)))))⟩,⟨_,Try.underlying73,rfl⟩,(by intro h; cases h),fun _=>eq73⟩
def ti74:TI:=⟨.struct [(3,0),(3,1),(3,2),(3,3),(3,4)],5,40,[.lit (Value.int .i64 0),.lit (Value.int .i64 0),.lit (Value.int .i64 0),.lit (Value.int .i64 0),.lit (Value.int .i64 0)],true⟩
theorem eq74:FlatEq Try.prog 74 5:=flat_ints (by kernel_rfl) (by kernel_rfl) (by kernel_rfl) (by kernel_rfl) (by kernel_rfl)
theorem tok74:TOK Try.prog 74 ti74:=⟨⟨Try.t74,.agg #[Value.int .i64 0,Value.int .i64 0,Value.int .i64 0,Value.int .i64 0,Value.int .i64 0],by kernel_rfl,rfl,rfl,rfl,rfl,fun _ _=>(.cons (.lit _) rfl (.cons (.lit _) rfl (.cons (.lit _) rfl (.cons (.lit _) rfl (.cons (.lit _) rfl .nil)))))⟩,⟨_,Try.underlying74,rfl⟩,(by intro h; cases h),fun _=>eq74⟩
def ti88:TI:=⟨.struct [(26,0),(3,1)],2,32,[.lit (Value.slice none 0 0),.lit (Value.int .i64 0)],false⟩
theorem tok88:TOK Try.prog 88 ti88:=⟨⟨Try.t88,.agg #[Value.slice none 0 0,Value.int .i64 0],by kernel_rfl,rfl,rfl,rfl,rfl,fun _ _=>(.cons (.lit _) rfl (.cons (.lit _) rfl .nil))⟩,⟨_,Try.underlying88,rfl⟩,(by intro h; cases h),(by intro h; cases h)⟩
def ti89:TI:=⟨.struct [(26,0),(3,1)],2,32,[.lit (Value.slice none 0 0),.lit (Value.int .i64 0)],false⟩
theorem tok89:TOK Try.prog 89 ti89:=⟨⟨Try.t89,.agg #[Value.slice none 0 0,Value.int .i64 0],by kernel_rfl,rfl,rfl,rfl,rfl,fun _ _=>(.cons (.lit _) rfl (.cons (.lit _) rfl .nil))⟩,⟨_,Try.underlying89,rfl⟩,(by intro h; cases h),(by intro h; cases h)⟩
def ti91:TI:=⟨.ptr 140,1,8,[.lit (Value.pointer none)],false⟩
theorem tok91:TOK Try.prog 91 ti91:=⟨⟨Try.t91,Value.pointer none,by kernel_rfl,rfl,rfl,rfl,rfl,fun _ _=>(.cons (.lit _) rfl .nil)⟩,Try.underlying91,fun _=>rfl,(by intro h; cases h)⟩
def ti96:TI:=⟨.func,1,8,[.lit (Value.nilFunc)],false⟩
theorem tok96:TOK Try.prog 96 ti96:=⟨⟨Try.t96,Value.nilFunc,by kernel_rfl,rfl,rfl,rfl,rfl,fun _ _=>(.cons (.lit _) rfl .nil)⟩,⟨_,_,_,Try.underlying96⟩,fun _=>rfl,(by intro h; cases h)⟩
def ti100:TI:=⟨.struct [(3,0),(3,1)],2,16,[.lit (Value.int .i64 0),.lit (Value.int .i64 0)],true⟩
theorem eq100:FlatEq Try.prog 100 2:=flat_ints (by kernel_rfl) (by kernel_rfl) (by kernel_rfl) (by kernel_rfl) (by kernel_rfl)
theorem tok100:TOK Try.prog 100 ti100:=⟨⟨Try.t100,.agg #[Value.int .i64 0,Value.int .i64 0],by kernel_rfl,rfl,rfl,rfl,rfl,fun _ _=>(.cons (.lit _) rfl (.cons (.lit _) rfl .nil))⟩,⟨_,Try.underlying100,rfl⟩,(by intro h; cases h),fun _=>eq100⟩
def ti101:TI:=⟨.struct [(3,0),(3,1)],2,16,[.lit (Value.int .i64 0),.lit (Value.int .i64 0)],true⟩
theorem eq101:FlatEq Try.prog 101 2:=flat_ints (by kernel_rfl) (by kernel_rfl) (by kernel_rfl) (by kernel_rfl) (by kernel_rfl)
theorem tok101:TOK Try.prog 101 ti101:=⟨⟨Try.t101,.agg #[Value.int .i64 0,Value.int .i64 0],by kernel_rfl,rfl,rfl,rfl,rfl,fun _ _=>(.cons (.lit _) rfl (.cons (.lit _) rfl .nil))⟩,⟨_,Try.underlying101,rfl⟩,(by intro h; cases h),fun _=>eq101⟩
def ti102:TI:=⟨.struct [(51,0),(3,2)],3,24,[.lit (Value.int .i64 0),.lit (Value.int .i64 0),.lit (Value.int .i64 0)],true⟩
theorem eq102:FlatEq Try.prog 102 3:=flat_nested 51 2 (by kernel_rfl) (by kernel_rfl) (by kernel_rfl) (by kernel_rfl) rfl (by kernel_rfl) (by kernel_rfl) (by kernel_rfl) (by kernel_rfl) ⟨Try.t51,by kernel_rfl,rfl⟩
theorem tok102:TOK Try.prog 102 ti102:=⟨⟨Try.t102,.agg #[Value.int .i64 0,Value.int .i64 0,Value.int .i64 0],by kernel_rfl,rfl,rfl,rfl,rfl,fun _ _=>(.cons (.lit _) rfl (.cons (.lit _) rfl (.cons (.lit _) rfl .nil)))⟩,⟨_,Try.underlying102,rfl⟩,(by intro h; cases h),fun _=>eq102⟩
def ti103:TI:=⟨.struct [(51,0),(3,2)],3,24,[.lit (Value.int .i64 0),.lit (Value.int .i64 0),.lit (Value.int .i64 0)],true⟩
theorem eq103:FlatEq Try.prog 103 3:=flat_nested 51 2 (by kernel_rfl) (by kernel_rfl) (by kernel_rfl) (by kernel_rfl) rfl (by kernel_rfl) (by kernel_rfl) (by kernel_rfl) (by kernel_rfl) ⟨Try.t51,by kernel_rfl,rfl⟩
theorem tok103:TOK Try.prog 103 ti103:=⟨⟨Try.t103,.agg #[Value.int .i64 0,Value.int .i64 0,Value.int .i64 0],by kernel_rfl,rfl,rfl,rfl,rfl,fun _ _=>(.cons (.lit _) rfl (.cons (.lit _) rfl (.cons (.lit _) rfl .nil)))⟩,⟨_,Try.underlying103,rfl⟩,(by intro h; cases h),fun _=>eq103⟩
def ti111:TI:=⟨.struct [(61,0)],5,88,[.lit (Value.int .i64 0),.lit (Value.int .i64 0),.lit (Value.slice none 0 0),.lit (Value.slice none 0 0),.lit (Value.slice none 0 0)],false⟩
theorem tok111:TOK Try.prog 111 ti111:=⟨⟨Try.t111,.agg #[Value.int .i64 0,Value.int .i64 0,Value.slice none 0 0,Value.slice none 0 0,Value.slice none 0 0],by kernel_rfl,rfl,rfl,rfl,rfl,fun _ _=>(.cons (.lit _) rfl (.cons (.lit _) rfl (.cons (.lit _) rfl (.cons (.lit _) rfl (.cons (.lit _) rfl .nil)))))⟩,⟨_,Try.underlying111,rfl⟩,(by intro h; cases h),(by intro h; cases h)⟩
def ti112:TI:=⟨.struct [(61,0)],5,88,[.lit (Value.int .i64 0),.lit (Value.int .i64 0),.lit (Value.slice none 0 0),.lit (Value.slice none 0 0),.lit (Value.slice none 0 0)],false⟩
theorem tok112:TOK Try.prog 112 ti112:=⟨⟨Try.t112,.agg #[Value.int .i64 0,Value.int .i64 0,Value.slice none 0 0,Value.slice none 0 0,Value.slice none 0 0],by kernel_rfl,rfl,rfl,rfl,rfl,fun _ _=>(.cons (.lit _) rfl (.cons (.lit _) rfl (.cons (.lit _) rfl (.cons (.lit _) rfl (.cons (.lit _) rfl .nil)))))⟩,⟨_,Try.underlying112,rfl⟩,(by intro h; cases h),(by intro h; cases h)⟩
def ti115:TI:=⟨.ptr 118,1,8,[.lit (Value.pointer none)],false⟩
theorem tok115:TOK Try.prog 115 ti115:=⟨⟨Try.t115,Value.pointer none,by kernel_rfl,rfl,rfl,rfl,rfl,fun _ _=>(.cons (.lit _) rfl .nil)⟩,Try.underlying115,fun _=>rfl,(by intro h; cases h)⟩
def ti117:TI:=⟨.struct [(59,0),(3,1)],2,32,[.lit (Value.slice none 0 0),.lit (Value.int .i64 0)],false⟩
theorem tok117:TOK Try.prog 117 ti117:=⟨⟨Try.t117,.agg #[Value.slice none 0 0,Value.int .i64 0],by kernel_rfl,rfl,rfl,rfl,rfl,fun _ _=>(.cons (.lit _) rfl (.cons (.lit _) rfl .nil))⟩,⟨_,Try.underlying117,rfl⟩,(by intro h; cases h),(by intro h; cases h)⟩
def ti118:TI:=⟨.struct [(59,0),(3,1)],2,32,[.lit (Value.slice none 0 0),.lit (Value.int .i64 0)],false⟩
theorem tok118:TOK Try.prog 118 ti118:=⟨⟨Try.t118,.agg #[Value.slice none 0 0,Value.int .i64 0],by kernel_rfl,rfl,rfl,rfl,rfl,fun _ _=>(.cons (.lit _) rfl (.cons (.lit _) rfl .nil))⟩,⟨_,Try.underlying118,rfl⟩,(by intro h; cases h),(by intro h; cases h)⟩
def ti120:TI:=⟨.struct [(56,0)],11,104,[.lit (Value.int .i64 0),.lit (Value.int .i64 0),.lit (Value.int .i64 0),.lit (Value.int .i64 0),.lit (Value.int .i64 0),.lit (Value.int .i64 0),.lit (Value.int .i64 0),.lit (Value.int .i64 0),.lit (Value.int .i64 0),.lit (Value.int .i64 0),.lit (Value.slice none 0 0)],false⟩
theorem tok120:TOK Try.prog 120 ti120:=⟨⟨Try.t120,.agg #[Value.int .i64 0,Value.int .i64 0,Value.int .i64 0,Value.int .i64 0,Value.int .i64 0,Value.int .i64 0,Value.int .i64 0,Value.int .i64 0,Value.int .i64 0,Value.int .i64 0,Value.slice none 0 0],by kernel_rfl,rfl,rfl,rfl,rfl,fun _ _=>(.cons (.lit _) rfl (.cons (.lit _) rfl (.cons (.lit _) rfl (.cons (.lit _) rfl (.cons (.lit _) rfl (.cons (.lit _) rfl (.cons (.lit _) rfl (.cons (.lit _) rfl (.cons (.lit _) rfl (.cons (.lit _) rfl (.cons (.lit _) rfl .nil)))))))))))⟩,⟨_,Try.underlying120,rfl⟩,(by intro h; cases h),(by intro h; cases h)⟩
def ti121:TI:=⟨.struct [(56,0)],11,104,[.lit (Value.int .i64 0),.lit (Value.int .i64 0),.lit (Value.int .i64 0),.lit (Value.int .i64 0),.lit (Value.int .i64 0),.lit (Value.int .i64 0),.lit (Value.int .i64 0),.lit (Value.int .i64 0),.lit (Value.int .i64 0),.lit (Value.int .i64 0),.lit (Value.slice none 0 0)],false⟩
theorem tok121:TOK Try.prog 121 ti121:=⟨⟨Try.t121,.agg #[Value.int .i64 0,Value.int .i64 0,Value.int .i64 0,Value.int .i64 0,Value.int .i64 0,Value.int .i64 0,Value.int .i64 0,Value.int .i64 0,Value.int .i64 0,Value.int .i64 0,Value.slice none 0 0],by kernel_rfl,rfl,rfl,rfl,rfl,fun _ _=>(.cons (.lit _) rfl (.cons (.lit _) rfl (.cons (.lit _) rfl (.cons (.lit _) rfl (.cons (.lit _) rfl (.cons (.lit _) rfl (.cons (.lit _) rfl (.cons (.lit _) rfl (.cons (.lit _) rfl (.cons (.lit _) rfl (.cons (.lit _) rfl .nil)))))))))))⟩,⟨_,Try.underlying121,rfl⟩,(by intro h; cases h),(by intro h; cases h)⟩
def ti125:TI:=⟨.func,1,8,[.lit (Value.nilFunc)],false⟩
theorem tok125:TOK Try.prog 125 ti125:=⟨⟨Try.t125,Value.nilFunc,by kernel_rfl,rfl,rfl,rfl,rfl,fun _ _=>(.cons (.lit _) rfl .nil)⟩,⟨_,_,_,Try.underlying125⟩,fun _=>rfl,(by intro h; cases h)⟩
def ti132:TI:=⟨.array 2 3,2,16,[.arr 1 2 (fun _=>[.lit (Value.int .i64 0)])],false⟩
theorem tok132:TOK Try.prog 132 ti132:=⟨⟨Try.t132,.agg #[Value.int .i64 0,Value.int .i64 0],by kernel_rfl,rfl,rfl,rfl,rfl,fun _ _=>(.arr (fun _=>[Value.int .i64 0]) (fun _ _=>rfl) (fun _ _=>(.cons (.lit _) rfl .nil)) .nil)⟩,Try.underlying132,(by intro h; cases h),(by intro h; cases h)⟩
def ti136:TI:=⟨.func,1,8,[.lit (Value.nilFunc)],false⟩
theorem tok136:TOK Try.prog 136 ti136:=⟨⟨Try.t136,Value.nilFunc,by kernel_rfl,rfl,rfl,rfl,rfl,fun _ _=>(.cons (.lit _) rfl .nil)⟩,⟨_,_,_,Try.underlying136⟩,fun _=>rfl,(by intro h; cases h)⟩
def ti137:TI:=⟨.mp 3 142 .u64,1,8,[.lit (Value.map none)],false⟩
theorem tok137:TOK Try.prog 137 ti137:=⟨⟨Try.t137,Value.map none,by kernel_rfl,rfl,rfl,rfl,rfl,fun _ _=>(.cons (.lit _) rfl .nil)⟩,⟨Try.underlying137,Try.underlying3,Try.underlying142,fun _=>by kernel_rfl⟩,fun _=>rfl,(by intro h; cases h)⟩
def ti138:TI:=⟨.slice 144,1,24,[.lit (Value.slice none 0 0)],false⟩
theorem tok138:TOK Try.prog 138 ti138:=⟨⟨Try.t138,Value.slice none 0 0,by kernel_rfl,rfl,rfl,rfl,rfl,fun _ _=>(.cons (.lit _) rfl .nil)⟩,Try.underlying138,fun _=>rfl,(by intro h; cases h)⟩
def ti139:TI:=⟨.struct [(28,0),(138,6),(137,7)],8,160,[.lit (Value.slice none 0 0),.lit (Value.slice none 0 0),.lit (Value.slice none 0 0),.lit (Value.slice none 0 0),.lit (Value.slice none 0 0),.lit (Value.int .i64 0),.lit (Value.slice none 0 0),.lit (Value.map none)],false⟩
theorem tok139:TOK Try.prog 139 ti139:=⟨⟨Try.t139,.agg #[Value.slice none 0 0,Value.slice none 0 0,Value.slice none 0 0,Value.slice none 0 0,Value.slice none 0 0,Value.int .i64 0,Value.slice none 0 0,Value.map none],by kernel_rfl,rfl,rfl,rfl,rfl,fun _ _=>(.cons (.lit _) rfl (.cons (.lit _) rfl (.cons (.lit _) rfl (.cons (.lit _) rfl (.cons (.lit _) rfl (.cons (.lit _) rfl (.cons (.lit _) rfl (.cons (.lit _) rfl .nil))))))))⟩,⟨_,Try.underlying139,rfl⟩,(by intro h; cases h),(by intro h; cases h)⟩
def ti140:TI:=⟨.struct [(28,0),(138,6),(137,7)],8,160,[.lit (Value.slice none 0 0),.lit (Value.slice none 0 0),.lit (Value.slice none 0 0),.lit (Value.slice none 0 0),.lit (Value.slice none 0 0),.lit (Value.int .i64 0),.lit (Value.slice none 0 0),.lit (Value.map none)],false⟩
theorem tok140:TOK Try.prog 140 ti140:=⟨⟨Try.t140,.agg #[Value.slice none 0 0,Value.slice none 0 0,Value.slice none 0 0,Value.slice none 0 0,Value.slice none 0 0,Value.int .i64 0,Value.slice none 0 0,Value.map none],by kernel_rfl,rfl,rfl,rfl,rfl,fun _ _=>(.cons (.lit _) rfl (.cons (.lit _) rfl (.cons (.lit _) rfl (.cons (.lit _) rfl (.cons (.lit _) rfl (.cons (.lit _) rfl (.cons (.lit _) rfl (.cons (.lit _) rfl .nil))))))))⟩,⟨_,Try.underlying140,rfl⟩,(by intro h; cases h),(by intro h; cases h)⟩
def ti141:TI:=⟨.int .u64,1,8,[.lit (Value.int .u64 0)],false⟩
theorem tok141:TOK Try.prog 141 ti141:=⟨⟨Try.t141,Value.int .u64 0,by kernel_rfl,rfl,rfl,rfl,rfl,fun _ _=>(.cons (.lit _) rfl .nil)⟩,Try.underlying141,fun _=>rfl,(by intro h; cases h)⟩
def ti142:TI:=⟨.int .u64,1,8,[.lit (Value.int .u64 0)],false⟩
theorem tok142:TOK Try.prog 142 ti142:=⟨⟨Try.t142,Value.int .u64 0,by kernel_rfl,rfl,rfl,rfl,rfl,fun _ _=>(.cons (.lit _) rfl .nil)⟩,Try.underlying142,fun _=>rfl,(by intro h; cases h)⟩
def ti143:TI:=⟨.struct [(3,0),(3,1),(142,2)],3,24,[.lit (Value.int .i64 0),.lit (Value.int .i64 0),.lit (Value.int .u64 0)],false⟩
theorem tok143:TOK Try.prog 143 ti143:=⟨⟨Try.t143,.agg #[Value.int .i64 0,Value.int .i64 0,Value.int .u64 0],by kernel_rfl,rfl,rfl,rfl,rfl,fun _ _=>(.cons (.lit _) rfl (.cons (.lit _) rfl (.cons (.lit _) rfl .nil)))⟩,⟨_,Try.underlying143,rfl⟩,(by intro h; cases h),(by intro h; cases h)⟩
def ti144:TI:=⟨.struct [(3,0),(3,1),(142,2)],3,24,[.lit (Value.int .i64 0),.lit (Value.int .i64 0),.lit (Value.int .u64 0)],false⟩
theorem tok144:TOK Try.prog 144 ti144:=⟨⟨Try.t144,.agg #[Value.int .i64 0,Value.int .i64 0,Value.int .u64 0],by kernel_rfl,rfl,rfl,rfl,rfl,fun _ _=>(.cons (.lit _) rfl (.cons (.lit _) rfl (.cons (.lit _) rfl .nil)))⟩,⟨_,Try.underlying144,rfl⟩,(by intro h; cases h),(by intro h; cases h)⟩
def ti147:TI:=⟨.func,1,8,[.lit (Value.nilFunc)],false⟩
theorem tok147:TOK Try.prog 147 ti147:=⟨⟨Try.t147,Value.nilFunc,by kernel_rfl,rfl,rfl,rfl,rfl,fun _ _=>(.cons (.lit _) rfl .nil)⟩,⟨_,_,_,Try.underlying147⟩,fun _=>rfl,(by intro h; cases h)⟩
def ti153:TI:=⟨.func,1,8,[.lit (Value.nilFunc)],false⟩
theorem tok153:TOK Try.prog 153 ti153:=⟨⟨Try.t153,Value.nilFunc,by kernel_rfl,rfl,rfl,rfl,rfl,fun _ _=>(.cons (.lit _) rfl .nil)⟩,⟨_,_,_,Try.underlying153⟩,fun _=>rfl,(by intro h; cases h)⟩
def ti154:TI:=⟨.slice 51,1,24,[.lit (Value.slice none 0 0)],false⟩
theorem tok154:TOK Try.prog 154 ti154:=⟨⟨Try.t154,Value.slice none 0 0,by kernel_rfl,rfl,rfl,rfl,rfl,fun _ _=>(.cons (.lit _) rfl .nil)⟩,Try.underlying154,fun _=>rfl,(by intro h; cases h)⟩
def ti155:TI:=⟨.func,1,8,[.lit (Value.nilFunc)],false⟩
theorem tok155:TOK Try.prog 155 ti155:=⟨⟨Try.t155,Value.nilFunc,by kernel_rfl,rfl,rfl,rfl,rfl,fun _ _=>(.cons (.lit _) rfl .nil)⟩,⟨_,_,_,Try.underlying155⟩,fun _=>rfl,(by intro h; cases h)⟩
def ti161:TI:=⟨.func,1,8,[.lit (Value.nilFunc)],false⟩
theorem tok161:TOK Try.prog 161 ti161:=⟨⟨Try.t161,Value.nilFunc,by kernel_rfl,rfl,rfl,rfl,rfl,fun _ _=>(.cons (.lit _) rfl .nil)⟩,⟨_,_,_,Try.underlying161⟩,fun _=>rfl,(by intro h; cases h)⟩
def ti168:TI:=⟨.ptr 184,1,8,[.lit (Value.pointer none)],false⟩
theorem tok168:TOK Try.prog 168 ti168:=⟨⟨Try.t168,Value.pointer none,by kernel_rfl,rfl,rfl,rfl,rfl,fun _ _=>(.cons (.lit _) rfl .nil)⟩,Try.underlying168,fun _=>rfl,(by intro h; cases h)⟩
def ti175:TI:=⟨.func,1,8,[.lit (Value.nilFunc)],false⟩
theorem tok175:TOK Try.prog 175 ti175:=⟨⟨Try.t175,Value.nilFunc,by kernel_rfl,rfl,rfl,rfl,rfl,fun _ _=>(.cons (.lit _) rfl .nil)⟩,⟨_,_,_,Try.underlying175⟩,fun _=>rfl,(by intro h; cases h)⟩
def ti177:TI:=⟨.func,1,8,[.lit (Value.nilFunc)],false⟩
theorem tok177:TOK Try.prog 177 ti177:=⟨⟨Try.t177,Value.nilFunc,by kernel_rfl,rfl,rfl,rfl,rfl,fun _ _=>(.cons (.lit _) rfl .nil)⟩,⟨_,_,_,Try.underlying177⟩,fun _=>rfl,(by intro h; cases h)⟩
def ti182:TI:=⟨.array 8 3,8,64,[.arr 1 8 (fun _=>[.lit (Value.int .i64 0)])],false⟩
theorem tok182:TOK Try.prog 182 ti182:=⟨⟨Try.t182,.agg #[Value.int .i64 0,Value.int .i64 0,Value.int .i64 0,Value.int .i64 0,Value.int .i64 0,Value.int .i64 0,Value.int .i64 0,Value.int .i64 0],by kernel_rfl,rfl,rfl,rfl,rfl,fun _ _=>(.arr (fun _=>[Value.int .i64 0]) (fun _ _=>rfl) (fun _ _=>(.cons (.lit _) rfl .nil)) .nil)⟩,Try.underlying182,(by intro h; cases h),(by intro h; cases h)⟩
def ti183:TI:=⟨.struct [(25,0),(3,2),(182,3),(182,11)],19,184,[.lit (Value.slice none 0 0),.lit (Value.slice none 0 0),.lit (Value.int .i64 0),.arr 1 8 (fun _=>[.lit (Value.int .i64 0)]),.arr 1 8 (fun _=>[.lit (Value.int .i64 0)])],false⟩
theorem tok183:TOK Try.prog 183 ti183:=⟨⟨Try.t183,.agg #[Value.slice none 0 0,Value.slice none 0 0,Value.int .i64 0,Value.int .i64 0,Value.int .i64 0,Value.int .i64 0,Value.int .i64 0,Value.int .i64 0,Value.int .i64 0,Value.int .i64 0,Value.int .i64 0,Value.int .i64 0,Value.int .i64 0,Value.int .i64 0,Value.int .i64 0,Value.int .i64 0,Value.int .i64 0,Value.int .i64 0,Value.int .i64 0],by kernel_rfl,rfl,rfl,rfl,rfl,fun _ _=>(.cons (.lit _) rfl (.cons (.lit _) rfl (.cons (.lit _) rfl (.arr (fun _=>[Value.int .i64 0]) (fun _ _=>rfl) (fun _ _=>(.cons (.lit _) rfl .nil)) (.arr (fun _=>[Value.int .i64 0]) (fun _ _=>rfl) (fun _ _=>(.cons (.lit _) rfl .nil)) .nil)))))⟩,⟨_,Try.underlying183,rfl⟩,(by intro h; cases h),(by intro h; cases h)⟩
def ti184:TI:=⟨.struct [(25,0),(3,2),(182,3),(182,11)],19,184,[.lit (Value.slice none 0 0),.lit (Value.slice none 0 0),.lit (Value.int .i64 0),.arr 1 8 (fun _=>[.lit (Value.int .i64 0)]),.arr 1 8 (fun _=>[.lit (Value.int .i64 0)])],false⟩
theorem tok184:TOK Try.prog 184 ti184:=⟨⟨Try.t184,.agg #[Value.slice none 0 0,Value.slice none 0 0,Value.int .i64 0,Value.int .i64 0,Value.int .i64 0,Value.int .i64 0,Value.int .i64 0,Value.int .i64 0,Value.int .i64 0,Value.int .i64 0,Value.int .i64 0,Value.int .i64 0,Value.int .i64 0,Value.int .i64 0,Value.int .i64 0,Value.int .i64 0,Value.int .i64 0,Value.int .i64 0,Value.int .i64 0],by kernel_rfl,rfl,rfl,rfl,rfl,fun _ _=>(.cons (.lit _) rfl (.cons (.lit _) rfl (.cons (.lit _) rfl (.arr (fun _=>[Value.int .i64 0]) (fun _ _=>rfl) (fun _ _=>(.cons (.lit _) rfl .nil)) (.arr (fun _=>[Value.int .i64 0]) (fun _ _=>rfl) (fun _ _=>(.cons (.lit _) rfl .nil)) .nil)))))⟩,⟨_,Try.underlying184,rfl⟩,(by intro h; cases h),(by intro h; cases h)⟩
def ti193:TI:=⟨.int .i64,1,8,[.lit (Value.int .i64 0)],false⟩
theorem tok193:TOK Try.prog 193 ti193:=⟨⟨Try.t193,Value.int .i64 0,by kernel_rfl,rfl,rfl,rfl,rfl,fun _ _=>(.cons (.lit _) rfl .nil)⟩,Try.underlying193,fun _=>rfl,(by intro h; cases h)⟩
def ti200:TI:=⟨.int .u32,1,4,[.lit (Value.int .u32 0)],false⟩
theorem tok200:TOK Try.prog 200 ti200:=⟨⟨Try.t200,Value.int .u32 0,by kernel_rfl,rfl,rfl,rfl,rfl,fun _ _=>(.cons (.lit _) rfl .nil)⟩,Try.underlying200,fun _=>rfl,(by intro h; cases h)⟩
def ti202:TI:=⟨.int .u64,1,8,[.lit (Value.int .u64 0)],false⟩
theorem tok202:TOK Try.prog 202 ti202:=⟨⟨Try.t202,Value.int .u64 0,by kernel_rfl,rfl,rfl,rfl,rfl,fun _ _=>(.cons (.lit _) rfl .nil)⟩,Try.underlying202,fun _=>rfl,(by intro h; cases h)⟩
def ti203:TI:=⟨.int .u64,1,8,[.lit (Value.int .u64 0)],false⟩
theorem tok203:TOK Try.prog 203 ti203:=⟨⟨Try.t203,Value.int .u64 0,by kernel_rfl,rfl,rfl,rfl,rfl,fun _ _=>(.cons (.lit _) rfl .nil)⟩,Try.underlying203,fun _=>rfl,(by intro h; cases h)⟩
def ti207:TI:=⟨.ptr 3,1,8,[.lit (Value.pointer none)],false⟩
theorem tok207:TOK Try.prog 207 ti207:=⟨⟨Try.t207,Value.pointer none,by kernel_rfl,rfl,rfl,rfl,rfl,fun _ _=>(.cons (.lit _) rfl .nil)⟩,Try.underlying207,fun _=>rfl,(by intro h; cases h)⟩
def ti209:TI:=⟨.ptr 203,1,8,[.lit (Value.pointer none)],false⟩
theorem tok209:TOK Try.prog 209 ti209:=⟨⟨Try.t209,Value.pointer none,by kernel_rfl,rfl,rfl,rfl,rfl,fun _ _=>(.cons (.lit _) rfl .nil)⟩,Try.underlying209,fun _=>rfl,(by intro h; cases h)⟩
def ti215:TI:=⟨.array 0 16,0,0,[.arr 1 0 (fun _=>[.lit (Value.pointer none)])],false⟩
theorem tok215:TOK Try.prog 215 ti215:=⟨⟨Try.t215,.agg #[],by kernel_rfl,rfl,rfl,rfl,rfl,fun _ _=>(.arr (fun _=>[Value.pointer none]) (fun _ _=>rfl) (fun _ _=>(.cons (.lit _) rfl .nil)) .nil)⟩,Try.underlying215,(by intro h; cases h),(by intro h; cases h)⟩
def ti216:TI:=⟨.struct [(215,0)],0,0,[.arr 1 0 (fun _=>[.lit (Value.pointer none)])],false⟩
theorem tok216:TOK Try.prog 216 ti216:=⟨⟨Try.t216,.agg #[],by kernel_rfl,rfl,rfl,rfl,rfl,fun _ _=>(.arr (fun _=>[Value.pointer none]) (fun _ _=>rfl) (fun _ _=>(.cons (.lit _) rfl .nil)) .nil)⟩,⟨_,Try.underlying216,rfl⟩,(by intro h; cases h),(by intro h; cases h)⟩
def ti217:TI:=⟨.struct [(215,0)],0,0,[.arr 1 0 (fun _=>[.lit (Value.pointer none)])],false⟩
theorem tok217:TOK Try.prog 217 ti217:=⟨⟨Try.t217,.agg #[],by kernel_rfl,rfl,rfl,rfl,rfl,fun _ _=>(.arr (fun _=>[Value.pointer none]) (fun _ _=>rfl) (fun _ _=>(.cons (.lit _) rfl .nil)) .nil)⟩,⟨_,Try.underlying217,rfl⟩,(by intro h; cases h),(by intro h; cases h)⟩
def ti219:TI:=⟨.int .u8,1,1,[.lit (Value.int .u8 0)],false⟩
theorem tok219:TOK Try.prog 219 ti219:=⟨⟨Try.t219,Value.int .u8 0,by kernel_rfl,rfl,rfl,rfl,rfl,fun _ _=>(.cons (.lit _) rfl .nil)⟩,Try.underlying219,fun _=>rfl,(by intro h; cases h)⟩
def ti220:TI:=⟨.int .u8,1,1,[.lit (Value.int .u8 0)],false⟩
theorem tok220:TOK Try.prog 220 ti220:=⟨⟨Try.t220,Value.int .u8 0,by kernel_rfl,rfl,rfl,rfl,rfl,fun _ _=>(.cons (.lit _) rfl .nil)⟩,Try.underlying220,fun _=>rfl,(by intro h; cases h)⟩
def ti222:TI:=⟨.ptr 5,1,8,[.lit (Value.pointer none)],false⟩
theorem tok222:TOK Try.prog 222 ti222:=⟨⟨Try.t222,Value.pointer none,by kernel_rfl,rfl,rfl,rfl,rfl,fun _ _=>(.cons (.lit _) rfl .nil)⟩,Try.underlying222,fun _=>rfl,(by intro h; cases h)⟩
def ti223:TI:=⟨.int .i32,1,4,[.lit (Value.int .i32 0)],false⟩
theorem tok223:TOK Try.prog 223 ti223:=⟨⟨Try.t223,Value.int .i32 0,by kernel_rfl,rfl,rfl,rfl,rfl,fun _ _=>(.cons (.lit _) rfl .nil)⟩,Try.underlying223,fun _=>rfl,(by intro h; cases h)⟩
def ti224:TI:=⟨.int .i32,1,4,[.lit (Value.int .i32 0)],false⟩
theorem tok224:TOK Try.prog 224 ti224:=⟨⟨Try.t224,Value.int .i32 0,by kernel_rfl,rfl,rfl,rfl,rfl,fun _ _=>(.cons (.lit _) rfl .nil)⟩,Try.underlying224,fun _=>rfl,(by intro h; cases h)⟩
def T0 (t:TypeId):Option TI :=
 match t with
 | 2=>some ti2
 | 3=>some ti3
 | 4=>some ti4
 | 5=>some ti5
 | 6=>some ti6
 | 7=>some ti7
 | 8=>some ti8
 | 12=>some ti12
 | 15=>some ti15
 | 16=>some ti16
 | 17=>some ti17
 | 18=>some ti18
 | 19=>some ti19
 | 21=>some ti21
 | 22=>some ti22
 | 23=>some ti23
 | 24=>some ti24
 | 25=>some ti25
 | 26=>some ti26
 | 27=>some ti27
 | 28=>some ti28
 | 30=>some ti30
 | 35=>some ti35
 | 36=>some ti36
 | 42=>some ti42
 | 43=>some ti43
 | 50=>some ti50
 | 51=>some ti51
 | 52=>some ti52
 | 53=>some ti53
 | 54=>some ti54
 | 55=>some ti55
 | 56=>some ti56
 | 57=>some ti57
 | 58=>some ti58
 | 59=>some ti59
 | 60=>some ti60
 | 61=>some ti61
 | 73=>some ti73
 | 74=>some ti74
 | 88=>some ti88
 | 89=>some ti89
 | 91=>some ti91
 | 96=>some ti96
 | 100=>some ti100
 | 101=>some ti101
 | 102=>some ti102
 | 103=>some ti103
 | 111=>some ti111
 | 112=>some ti112
 | 115=>some ti115
 | 117=>some ti117
 | 118=>some ti118
 | 120=>some ti120
 | 121=>some ti121
 | 125=>some ti125
 | 132=>some ti132
 | 136=>some ti136
 | 137=>some ti137
 | 138=>some ti138
 | 139=>some ti139
 | 140=>some ti140
 | 141=>some ti141
 | 142=>some ti142
 | 143=>some ti143
 | 144=>some ti144
 | 147=>some ti147
 | 153=>some ti153
 | 154=>some ti154
 | 155=>some ti155
 | 161=>some ti161
 | 168=>some ti168
 | 175=>some ti175
 | 177=>some ti177
 | 182=>some ti182
 | 183=>some ti183
 | 184=>some ti184
 | 193=>some ti193
 | 200=>some ti200
 | 202=>some ti202
 | 203=>some ti203
 | 207=>some ti207
 | 209=>some ti209
 | 215=>some ti215
 | 216=>some ti216
 | 217=>some ti217
 | 219=>some ti219
 | 220=>some ti220
 | 222=>some ti222
 | 223=>some ti223
 | 224=>some ti224
 | _=>none
theorem T0_ok:Tab.ok Try.prog T0:=by
 intro t ti h
 unfold T0 at h
 split at h
 ·cases h; exact tok2
 ·cases h; exact tok3
 ·cases h; exact tok4
 ·cases h; exact tok5
 ·cases h; exact tok6
 ·cases h; exact tok7
 ·cases h; exact tok8
 ·cases h; exact tok12
 ·cases h; exact tok15
 ·cases h; exact tok16
 ·cases h; exact tok17
 ·cases h; exact tok18
 ·cases h; exact tok19
 ·cases h; exact tok21
 ·cases h; exact tok22
 ·cases h; exact tok23
 ·cases h; exact tok24
 ·cases h; exact tok25
 ·cases h; exact tok26
 ·cases h; exact tok27
 ·cases h; exact tok28
 ·cases h; exact tok30
 ·cases h; exact tok35
 ·cases h; exact tok36
 ·cases h; exact tok42
 ·cases h; exact tok43
 ·cases h; exact tok50
 ·cases h; exact tok51
 ·cases h; exact tok52
 ·cases h; exact tok53
 ·cases h; exact tok54
 ·cases h; exact tok55
 ·cases h; exact tok56
 ·cases h; exact tok57
 ·cases h; exact tok58
 ·cases h; exact tok59
 ·cases h; exact tok60
 ·cases h; exact tok61
 ·cases h; exact tok73
 ·cases h; exact tok74
 ·cases h; exact tok88
 ·cases h; exact tok89
 ·cases h; exact tok91
 ·cases h; exact tok96
 ·cases h; exact tok100
 ·cases h; exact tok101
 ·cases h; exact tok102
 ·cases h; exact tok103
 ·cases h; exact tok111
 ·cases h; exact tok112
 ·cases h; exact tok115
 ·cases h; exact tok117
 ·cases h; exact tok118
 ·cases h; exact tok120
 ·cases h; exact tok121
 ·cases h; exact tok125
 ·cases h; exact tok132
 ·cases h; exact tok136
 ·cases h; exact tok137
 ·cases h; exact tok138
 ·cases h; exact tok139
 ·cases h; exact tok140
 ·cases h; exact tok141
 ·cases h; exact tok142
 ·cases h; exact tok143
 ·cases h; exact tok144
 ·cases h; exact tok147
 ·cases h; exact tok153
 ·cases h; exact tok154
 ·cases h; exact tok155
 ·cases h; exact tok161
 ·cases h; exact tok168
 ·cases h; exact tok175
 ·cases h; exact tok177
 ·cases h; exact tok182
 ·cases h; exact tok183
 ·cases h; exact tok184
 ·cases h; exact tok193
 ·cases h; exact tok200
 ·cases h; exact tok202
 ·cases h; exact tok203
 ·cases h; exact tok207
 ·cases h; exact tok209
 ·cases h; exact tok215
 ·cases h; exact tok216
 ·cases h; exact tok217
 ·cases h; exact tok219
 ·cases h; exact tok220
 ·cases h; exact tok222
 ·cases h; exact tok223
 ·cases h; exact tok224
 ·cases h
theorem mixed:Try.prog.follows .mixedOrders=true:=by kernel_rfl
end Go.Ab
namespace Go.Ab
open Go Go.RowKit
def hoIn (L:List (Nat × OB)):List (Nat × OB)->Prop
 | []=>True
 | p :: r=>Heap.of L p.1=some p.2/\hoIn L r
theorem hoIn_mem {L:List (Nat × OB)}:∀ {l:List (Nat × OB)},hoIn L l -> ∀ p ∈ l,Heap.of L p.1=some p.2:=by
 intro l
 induction l with
 | nil=>intro _ p hp; cases hp
 | cons q r ih =>
  intro h p hp
  cases hp with
  | head=>exact h.1
  | tail _ hp=>exact ih h.2 p hp
def retO (T:Tab) (rs:List ResultVar) (st:ASt) (res:AV) (hout:List (Nat × OB)):Prop :=
 match resVals T st rs with
 | some (q,rvs)=>q/\retAV rvs=res/\hoIn st.hp hout
 | none=>False
def RetO (C:Ctx) (nt:Nat) (T:Tab) (rs:List ResultVar) (res:AV) (hout:List (Nat × OB)):AX->ASt->Prop
 | .exit _,_=>False
 | _,st => ∃ st2,Ent C nt st st2/\retO T rs st2 res hout
def renI:List (Nat × Nat)->Nat->Nat
 | [],j=>j
 | p :: r,j=>if p.1=j then p.2 else renI r j
def renC (l:List (Nat × Nat)):AV->AV
 | .vec b => .vec (renI l b)
 | v=>v
def renV1 (l:List (Nat × Nat)):AV->AV
 | .agg cs => .agg (cs.map (renC l))
 | v=>renC l v
def renV (l:List (Nat × Nat)):AV->AV
 | .tup vs => .tup (vs.map (renV1 l))
 | v=>renV1 l v
def renB (l:List (Nat × Nat)):OB->OB
 | .vecx t sz n f j fj => .vecx t sz n f j (fj.map (renC l))
 | ob=>ob
def okC (ks:List Nat):AV->Bool
 | .vec b=>ks.contains b
 | v=>(ids v).isEmpty
def okV1 (ks:List Nat):AV->Bool
 | .agg cs=>cs.all (okC ks)
 | v=>okC ks v
def okV (ks:List Nat):AV->Bool
 | .tup vs=>vs.all (okV1 ks)
 | v=>okV1 ks v
def okB (ks:List Nat):OB->Bool
 | .vec _ _ _ _=>true
 | .vecx _ _ _ _ _ fj=>fj.all (okC ks) && noFnL fj
 | _=>false
structure OutSpec where
 args:List AV
 pre:Prop:=True
 res:AV
 hout:List (Nat × OB)
def OutSpec.at (s:OutSpec) (l:List (Nat × Nat)):CallSpec:={ args:=s.args,pre:=s.pre,res:=renV l s.res,hout:=s.hout.map (fun p=>(renI l p.1,renB l p.2)) }
theorem noDup_nodup:∀ {l:List Nat},noDup l=true->l.Nodup:=by
 intro l
 induction l with
 | nil=>intro _; exact List.nodup_nil
 | cons c l ih =>
  intro h
  obtain ⟨h1,h2⟩:=noDup_cons h
  exact List.nodup_cons.2 ⟨h1,ih h2⟩
structure Ren (l:List (Nat × Nat)) (E F:Env):Prop where
 M:∀ b o,E.M b=some o->F.M b=some o
 fns:F.fns=E.fns
 same:∀ c,c ∈ l.map (·.1)->F.blk (renI l c)=E.blk c/\F.hdr (renI l c)=E.hdr c
theorem renC_rel {l:List (Nat × Nat)} {E F:Env} (hr:Ren l E F) {v:AV} {u:Value} (ho:okC (l.map (·.1)) v=true) (h:Rel E true v u):Rel F true (renC l v) u:=by
 cases v with
 | vec b =>
  have hm:b ∈ l.map (·.1):=by simpa [okC] using ho
  cases h with
  | vec _ hh h1=>exact .vec _ (by rw [(hr.same b hm).2]; exact hh) h1
 | _ =>
  simp only [renC]
  simp only [okC,List.isEmpty_iff] at ho
  exact Rel.trim hr.M hr.fns h (fun _=>ho)
theorem renL_rel {l:List (Nat × Nat)} {E F:Env} (hr:Ren l E F):∀ {cs:List AV} {us:List Value},cs.all (okC (l.map (·.1)))=true->RelL E true cs us->RelL F true (cs.map (renC l)) us:=by
 intro cs
 induction cs with
 | nil=>intro us _ h; cases h; exact .nil
 | cons c cs ih =>
  intro us ho h
  simp only [List.all_cons,Bool.and_eq_true] at ho
  cases h with
  | cons h h1 hs=>exact .cons (renC_rel hr ho.1 h) h1 (ih ho.2 hs)
  | arr g hg h hs=>exact .arr g hg (fun i hi=>(h i hi).trim hr.M hr.fns) (ih ho.2 hs)
theorem renV1_rel {l:List (Nat × Nat)} {E F:Env} (hr:Ren l E F) {v:AV} {u:Value} (ho:okV1 (l.map (·.1)) v=true) (h:Rel E true v u):Rel F true (renV1 l v) u:=by
 cases v with
 | agg cs =>
  cases h with
  | agg hl=>exact .agg (renL_rel hr ho hl)
 | _ =>
  simp only [renV1]
  simp only [okV1] at ho
  exact renC_rel hr ho h
theorem renV_rel {l:List (Nat × Nat)} {E F:Env} (hr:Ren l E F) {v:AV} {u:Value} (ho:okV (l.map (·.1)) v=true) (h:Rel E true v u):Rel F true (renV l v) u:=by
 cases v with
 | tup vs =>
  cases h with
  | tup hl hk =>
   rename_i us
   refine .tup (by rw [List.length_map]; exact hl) fun k => ?_
   have h0:=hk k
   simp only [okV,List.all_eq_true] at ho
   by_cases hlt:k < vs.length
   ·have e1:(vs.map (renV1 l)).getD k .any=renV1 l (vs.getD k .any):=by
     simp [List.getD,List.getElem?_eq_getElem hlt]
    rw [e1]
    refine renV1_rel hr (ho _ ?_) h0
    simp [List.getD,List.getElem?_eq_getElem hlt]
   ·rw [List.getD_eq_getElem?_getD,List.getElem?_eq_none (by simpa using hlt)]
    exact .any _
 | _ =>
  simp only [renV]
  simp only [okV] at ho
  exact renV1_rel hr ho h
theorem renI_mem:∀ {l:List (Nat × Nat)} {c:Nat},c ∈ l.map (·.1)->(c,renI l c) ∈ l:=by
 intro l
 induction l with
 | nil=>intro c h; cases h
 | cons p r ih =>
  intro c h
  unfold renI
  split
  ·rename_i e; rw [← e]; exact List.mem_cons_self
  ·rename_i e
   refine List.mem_cons_of_mem _ (ih ?_)
   simp only [List.map_cons,List.mem_cons] at h
   rcases h with h | h
   ·exact absurd h.symm e
   ·exact h
def unI:List (Nat × Nat)->Nat->Option Nat
 | [],_=>none
 | p :: r,j=>if p.2=j then some p.1 else unI r j
theorem unI_of:∀ {l:List (Nat × Nat)},(l.map (·.2)).Nodup -> ∀ {c b:Nat},(c,b) ∈ l->unI l b=some c:=by
 intro l
 induction l with
 | nil=>intro _ c b h; cases h
 | cons p r ih =>
  intro hn c b h
  rw [List.map_cons,List.nodup_cons] at hn
  unfold unI
  cases h with
  | head=>rw [if_pos rfl]
  | tail _ h =>
   have:¬ p.2=b:=fun e=>hn.1 (by rw [e]; exact List.mem_map_of_mem (f:=fun x:Nat × Nat=>x.2) h)
   rw [if_neg this]
   exact ih hn.2 h
theorem unI_mem:∀ {l:List (Nat × Nat)} {c b:Nat},unI l b=some c->(c,b) ∈ l:=by
 intro l
 induction l with
 | nil=>intro c b h; cases h
 | cons p r ih =>
  intro c b h
  unfold unI at h
  split at h
  ·rename_i e; cases h; rw [← e]; exact List.mem_cons_self
  ·exact List.mem_cons_of_mem _ (ih h)
theorem triple_out {P:Program} {f:FuncId} {fn:Func} {c:Code} {T:Tab} (hf:P.funcs[f]? = some fn) (hb:fn.body=some c) (hcall:Callable P f) (hT:Tab.ok P T) (args:List AV) (pre:Prop) (res:AV) (hout:List (Nat × OB)) (l:List (Nat × Nat))
  (hargs:idsL args = []) (hn:args.length<=fn.ntmps) (hl1:l.map (·.1)=hout.map (·.1)) (hnd:(l.map (·.2)).Nodup) (hres:okV (hout.map (·.1)) res=true) (hob:hout.all (fun p=>okB (hout.map (·.1)) p.2)=true) (hnd1:noDup (hout.map (·.1))=true)
  (body:pre -> ∀ C:Ctx,C.P=P/\C.ro=none/\C.df=true->(∀ j,C.E0.blk j=none/\C.E0.hdr j=none)->SWP C fn.ntmps c (RetO C fn.ntmps T fn.results.toList res hout) ⟨argsTm args 0,[],0⟩) :
  Triple P f ((⟨args,pre,res,hout⟩:OutSpec).at l):=by
 have hk:∀ p ∈ l,∃ ob,(p.1,ob) ∈ hout:=by
  intro p hp
  have:p.1 ∈ hout.map (·.1):=by rw [← hl1]; exact List.mem_map_of_mem (f:=fun x:Nat × Nat=>x.1) hp
  obtain ⟨q,hq,he⟩:=List.mem_map.1 this
  exact ⟨q.2,by rw [← he]; exact hq⟩
 replace hnd1:(l.map (·.1)).Nodup:=by rw [hl1]; exact noDup_nodup hnd1
 rw [← hl1] at hres
 replace hob:hout.all (fun p=>okB (l.map (·.1)) p.2 && (l.map (·.1)).contains p.1)=true:=by
  rw [List.all_eq_true] at hob ⊢
  intro p hp
  rw [hl1,hob p hp,Bool.true_and,List.contains_eq_mem]
  exact decide_eq_true (List.mem_map_of_mem (f:=fun x:Nat × OB=>x.1) hp)
 show Triple P f { args:=args,pre:=pre,res:=renV l res,hout:=hout.map (fun p=>(renI l p.1,renB l p.2)) }
 refine ⟨hcall,fun hpre E w vs _ hok hlen hrel hfresh => ?_⟩
 let E0:Env:={ E with blk:=fun _=>none,hdr:=fun _=>none }
 let C:Ctx:={ calleeCtx P E0 w [] with df:=true }
 have hok0:HeapOK C E0 (Heap.of []) w:=⟨rfl,rfl,rfl,Nat.le_refl _,fun _ _=>rfl,fun b o h=>hok.mem b o h,Env.le.refl _,fun b o h => .inl h,(fun i ob h=>by cases h),(fun i j k _ h=>absurd rfl h)⟩
 have htm:∀ t,Rel E0 true (look (argsTm args 0) t) ((vs.toArray ++ Array.replicate (fn.ntmps - vs.toArray.size) undef).getD t undef):=by
  intro t
  rw [look_args,if_pos (Nat.zero_le _),Nat.sub_zero]
  rcases Nat.lt_or_ge t vs.length with ht | ht
  ·have h1:(vs.toArray ++ Array.replicate (fn.ntmps - vs.toArray.size) undef).getD t undef=vs.getD t undef:=by
    simp only [Array.getD_eq_getD_getElem?,List.getD_eq_getElem?_getD]
    rw [Array.getElem?_append_left (by simpa using ht)]
    simp
   rw [h1]
   exact Rel.trim (E:=E) (F:=E0) (fun _ _ h=>h) rfl (hrel t) (fun _=>idsL_get hargs t)
  ·have hl':vs.length=args.length:=hlen
   rw [List.getD_eq_getElem?_getD,List.getElem?_eq_none (by omega)]
   exact .any _
 have hl':vs.length=args.length:=hlen
 have hsat:Sat C E0 fn.ntmps ⟨argsTm args 0,[],0⟩ w { tmps:=vs.toArray ++ Array.replicate (fn.ntmps - vs.toArray.size) undef,defers:=[] } :=
  ⟨⟨hok0,htm,⟨fun _=>rfl,trivial⟩,by simp; omega⟩,fun j _=>⟨rfl,rfl⟩⟩
 have hsw:=body hpre C ⟨rfl,rfl,rfl⟩ (fun j=>⟨rfl,rfl⟩) E0 w _ hsat
 refine callsIn_marks hf hb (wpIn_mono (F:=Fence.wide) hsw ?_)
 rintro e a0 w0' ⟨x,E0',st1,rfl,hs0,hk1⟩
 have fin:∀ (E1:Env) (w':World) (a':Act),Sat C E1 fn.ntmps st1 w' a'->(∃ st2,Ent C fn.ntmps st1 st2/\retO T fn.results.toList st2 res hout) -> ∃ v,(results fn a'.tmps).run P w' = .ok v w'/\CallPost P { args:=args,pre:=pre,res:=renV l res,hout:=hout.map (fun p=>(renI l p.1,renB l p.2)) } E w (.returned v) w':=by
  rintro E1 w' a' hs1 ⟨st2,hent,hq⟩
  obtain ⟨E',hs'⟩:=hent E1 w' a' hs1
  unfold retO at hq
  split at hq
  ·rename_i q rvs hrv
   obtain ⟨hq0,hres0,hho⟩:=hq
   obtain ⟨us,hus,hul,hur⟩:=resVals_run (C:=C) hT hs' _ q rvs hrv hq0
   have hrun:=results_run (P:=P) hus
   refine ⟨_,hrun,?_⟩
   have hrv':Rel E' true (retAV rvs) (if h:us.length=1 then us[0] else .tuple us.toArray):=by
    cases rvs with
    | nil =>
     have:us = []:=List.eq_nil_of_length_eq_zero hul
     subst this
     exact .tup rfl (fun k=>hur k)
    | cons v r =>
     cases r with
     | nil =>
      have hul1:us.length=1:=hul
      rw [dif_pos hul1]
      have:=hur 0
      simp only [List.getD_cons_zero] at this
      rw [List.getD_eq_getElem?_getD,List.getElem?_eq_getElem (by omega)] at this
      exact this
     | cons v2 r =>
      have hne:¬ us.length=1:=by rw [hul]; simp
      rw [dif_neg hne]
      exact .tup (cs:=v :: v2 :: r) hul hur
   rw [hres0] at hrv'
   have hle:=hs'.ok.heap.le
   let F:Env:={ E with M:=E'.M,blk:=fun j=>match unI l j with | some c=>E'.blk c | none=>E.blk j,hdr:=fun j=>match unI l j with | some c=>E'.hdr c | none=>E.hdr j }
   have hfns:F.fns=E'.fns:=by
    show E.fns=E'.fns
    exact (hle.fns.symm:E0.fns=E'.fns)
   have hren:Ren l E' F:=by
    refine ⟨fun b o h=>h,hfns,fun c hc => ?_⟩
    have:=unI_of hnd (renI_mem hc)
    constructor
    ·show (match unI l (renI l c) with | some c=>E'.blk c | none=>E.blk (renI l c))=_
     rw [this]
    ·show (match unI l (renI l c) with | some c=>E'.hdr c | none=>E.hdr (renI l c))=_
     rw [this]
   have hinfo:∀ p ∈ hout,okB (l.map (·.1)) p.2=true/\p.1 ∈ l.map (·.1):=by
    intro p hp
    rw [List.all_eq_true] at hob
    have:=hob p hp
    simp only [Bool.and_eq_true,List.contains_eq_mem,decide_eq_true_eq] at this
    exact this
   have hfr:∀ j c,unI l j=some c->E.blk j=none/\E.hdr j=none:=by
    intro j c hj
    obtain ⟨ob,hob'⟩:=hk _ (unI_mem hj)
    have hm:c ∈ l.map (·.1):=(hinfo _ hob').2
    have h1:=unI_of hnd (renI_mem hm)
    have h2:=renI_mem hm
    have hjr:renI l c=j:=by
     have h3:=unI_mem hj
     -- both pairs have the same first part
     have key:∀ {l:List (Nat × Nat)},(l.map (·.1)).Nodup -> ∀ {c a b:Nat},(c,a) ∈ l->(c,b) ∈ l->a=b:=by
      intro l
      induction l with
      | nil=>intro _ c a b h; cases h
      | cons p r ih =>
       intro hn c a b ha hb
       rw [List.map_cons,List.nodup_cons] at hn
       cases ha with
       | head =>
        cases hb with
        | head=>rfl
        | tail _ hb=>exact absurd (List.mem_map_of_mem (f:=fun x:Nat × Nat=>x.1) hb) hn.1
       | tail _ ha =>
        cases hb with
        | head=>exact absurd (List.mem_map_of_mem (f:=fun x:Nat × Nat=>x.1) ha) hn.1
        | tail _ hb=>exact ih hn.2 ha hb
     exact key hnd1 h2 h3
    have hmem:(renI l c,renB l ob) ∈ hout.map (fun p=>(renI l p.1,renB l p.2)):=List.mem_map_of_mem (f:=fun p:Nat × OB=>(renI l p.1,renB l p.2)) hob'
    have:=hfresh _ hmem (fun q hq=>by cases hq)
    rw [hjr] at this
    exact this
   have lF:E.le F:=by
    refine ⟨fun b o h=>hle.M b o h,fun b k h => ?_,fun b u h => ?_,rfl⟩
    ·show (match unI l b with | some c=>E'.blk c | none=>E.blk b)=some k
     cases e:unI l b with
     | none=>exact h
     | some c=>rw [(hfr b c e).1] at h; cases h
    ·show (match unI l b with | some c=>E'.hdr c | none=>E.hdr b)=some u
     cases e:unI l b with
     | none=>exact h
     | some c=>rw [(hfr b c e).2] at h; cases h
   have hget:∀ i ob,Heap.of (hout.map (fun p=>(renI l p.1,renB l p.2))) i=some ob -> ∃ c ob0,unI l i=some c/\ob=renB l ob0/\Heap.of st2.hp c=some ob0/\okB (l.map (·.1)) ob0=true/\renI l c=i:=by
    intro i ob hi
    have hm:=Heap.of_mem hi
    obtain ⟨p,hp,he⟩:=List.mem_map.1 hm
    cases he
    exact ⟨p.1,p.2,unI_of hnd (renI_mem (hinfo p hp).2),rfl,hoIn_mem hho p hp,(hinfo p hp).1,rfl⟩
   have h':=hs'.ok.heap
   have av1:∀ x,C.avail x->(calleeCtx P E w []).avail x:=by
    rintro x (h | ⟨q,hq,_⟩)
    ·exact .inl h
    ·cases hq
   refine ⟨_,F,rfl,?_,renV_rel hren hres hrv',fun j hj => ?_⟩
   ·refine ⟨h'.os,h'.tape,h'.output,h'.size,fun x hx=>h'.pres x (fun h=>hx (av1 x h)),fun x o h=>h'.mem x o h,lF,fun x o h => ?_,fun i ob hi => ?_,fun i j y hij hi hj hiy hjy => ?_⟩
    ·rcases h'.ext x o h with h | h
     ·exact .inl h
     ·exact .inr (av1 x h)
    ·obtain ⟨c,ob0,hc,rfl,hst,hok',hri⟩:=hget i ob hi
     have hown:=h'.own c ob0 hst
     have hcb:F.blk i=E'.blk c:=by
      show (match unI l i with | some c=>E'.blk c | none=>E.blk i)=_
      rw [hc]
     have hch:F.hdr i=E'.hdr c:=by
      show (match unI l i with | some c=>E'.hdr c | none=>E.hdr i)=_
      rw [hc]
     cases ob0 with
     | vec t sz n f =>
      obtain ⟨hd,g,hh,ho,hgl,hgr,hbk,hav⟩:=hown
      exact ⟨hd,g,by rw [hch]; exact hh,ho,hgl,fun i hi=>RelL.trim (E:=E') (F:=F) (fun _ _ h=>h) hfns (hgr i hi),by rw [hcb]; exact hbk,fun k hk=>⟨av1 k (hav k hk).1,(hav k hk).2⟩⟩
     | vecx t sz n f j fj =>
      obtain ⟨hd,g,hh,ho,hgl,hgr,hgj,hbk,hav⟩:=hown
      simp only [okB,Bool.and_eq_true] at hok'
      exact ⟨hd,g,by rw [hch]; exact hh,ho,hgl,fun i hi hij=>RelL.trim (E:=E') (F:=F) (fun _ _ h=>h) hfns (hgr i hi hij),fun h=>renL_rel hren hok'.1 (hgj h),by rw [hcb]; exact hbk,fun k hk=>⟨av1 k (hav k hk).1,(hav k hk).2⟩⟩
     | _=>cases hok'
    ·have get:∀ i,Heap.of (hout.map (fun p=>(renI l p.1,renB l p.2))) i ≠ none->F.blk i=some y -> ∃ c,unI l i=some c/\Heap.of st2.hp c ≠ none/\E'.blk c=some y/\renI l c=i:=by
      intro i hi hiy
      cases e:Heap.of (hout.map (fun p=>(renI l p.1,renB l p.2))) i with
      | none=>exact absurd e hi
      | some ob =>
       obtain ⟨c,ob0,hc,rfl,hst,hok',hri⟩:=hget i ob e
       refine ⟨c,hc,by rw [hst]; simp,?_,hri⟩
       have:F.blk i=E'.blk c:=by
        show (match unI l i with | some c=>E'.blk c | none=>E.blk i)=_
        rw [hc]
       rw [← this]; exact hiy
     obtain ⟨c1,_,n1,k1,r1⟩:=get i hi hiy
     obtain ⟨c2,_,n2,k2,r2⟩:=get j hj hjy
     exact h'.sep c1 c2 y (fun e=>hij (by rw [← r1,← r2,e])) n1 n2 k1 k2
   ·have:unI l j=none:=by
     cases e:unI l j with
     | none=>rfl
     | some c =>
      obtain ⟨ob,hob'⟩:=hk _ (unI_mem e)
      have hm:c ∈ l.map (·.1):=(hinfo _ hob').2
      exfalso
      have hmem:(renI l c,renB l ob) ∈ hout.map (fun p=>(renI l p.1,renB l p.2)):=List.mem_map_of_mem (f:=fun p:Nat × OB=>(renI l p.1,renB l p.2)) hob'
      refine hj _ hmem ?_
      show renI l c=j
      have h2:=renI_mem hm
      have h3:=unI_mem e
      have key:∀ {l:List (Nat × Nat)},(l.map (·.1)).Nodup -> ∀ {c a b:Nat},(c,a) ∈ l->(c,b) ∈ l->a=b:=by
       intro l
       induction l with
       | nil=>intro _ c a b h; cases h
       | cons p r ih =>
        intro hn c a b ha hb
        rw [List.map_cons,List.nodup_cons] at hn
        cases ha with
        | head =>
         cases hb with
         | head=>rfl
         | tail _ hb=>exact absurd (List.mem_map_of_mem (f:=fun x:Nat × Nat=>x.1) hb) hn.1
        | tail _ ha =>
         cases hb with
         | head=>exact absurd (List.mem_map_of_mem (f:=fun x:Nat × Nat=>x.1) ha) hn.1
         | tail _ hb=>exact ih hn.2 ha hb
      exact key hnd1 h2 h3
    constructor
    ·show (match unI l j with | some c=>E'.blk c | none=>E.blk j)=_
     rw [this]
    ·show (match unI l j with | some c=>E'.hdr c | none=>E.hdr j)=_
     rw [this]
  ·exact hq.elim
 have go:(∃ st2,Ent C fn.ntmps st1 st2/\retO T fn.results.toList st2 res hout)->LeavesInM Fence.wide 0 P fn a0.tmps (CallPost P { args:=args,pre:=pre,res:=renV l res,hout:=hout.map (fun p=>(renI l p.1,renB l p.2)) } E w) a0.defers .returning w0':=fun hq =>
  leaves_marks (C:=C) (fun E1 w1 h1=>fin E1 w1 { tmps:=a0.tmps,defers:=[] } h1 hq) a0.defers E0' w0' hs0
 cases x with
 | normal=>exact go hk1
 | ret=>exact go hk1
 | exit id=>exact hk1.elim
section
variable {C:Ctx} {nt:Nat} {K:AX->ASt->Prop} {st:ASt}
theorem ret_o {T:Tab} {rs:List ResultVar} {res:AV} {hout:List (Nat × OB)} (st2:ASt) (he:Ent C nt st st2) (q:Prop) (hq:retO T rs st2 res hout=q) (h:q):RetO C nt T rs res hout .ret st:=⟨st2,he,by rw [hq]; exact h⟩
end
end Go.Ab
namespace Go.Ab
open Go Go.RowKit
section
variable {C:Ctx} {nt:Nat} {K:AX->ASt->Prop} {st:ASt}
def joinK (C:Ctx) (nt:Nat) (s':ASt) (K:AX->ASt->Prop):AX->ASt->Prop
 | .normal,st=>Ent C nt st s'
 | x,st=>K x st
theorem swp_join2 {x y:Code} (s':ASt) (hy:SWP C nt y K s') (hx:SWP C nt x (joinK C nt s' K) st):SWP C nt x (seqK C nt y K) st :=
 swp_mono hx fun a s h=>by
  cases a with
  | normal=>exact swp_ent h hy
  | ret=>exact h
  | exit i=>exact h
theorem join_end {s s':ASt} (h:Ent C nt s s'):joinK C nt s' K .normal s:=h
end
structure JoinH where
 tm:List (Nat × AV):=[]
 hp:List (Nat × OB):=[]
end Go.Ab
namespace Go.Ab
open Go Go.RowKit
def rnK (l:List (Nat × Nat)):AV->AV
 | .vec b => .vec (renI l b)
 | .ptr b p => .ptr (renI l b) p
 | v=>v
def rnC (l:List (Nat × Nat)):AV->AV
 | .clo f cs => .clo f (cs.map (rnK l))
 | v=>rnK l v
def rnV (l:List (Nat × Nat)):AV->AV
 | .agg cs => .agg (cs.map (rnC l))
 | .clo f cs => .clo f (cs.map (rnC l))
 | v=>rnC l v
def rnR (l:List (Nat × Nat)):AV->AV
 | .tup vs => .tup (vs.map (rnV l))
 | v=>rnV l v
def rnB (l:List (Nat × Nat)):OB->OB
 | .cells t cs => .cells t (cs.map (rnC l))
 | .vecx t sz n f j fj => .vecx t sz n f j (fj.map (rnC l))
 | ob=>ob
def kK (ks:List Nat):AV->Bool
 | .vec b=>ks.contains b
 | .ptr b _=>ks.contains b
 | .agg _=>false
 | .clo _ _=>false
 | .tup _=>false
 | v=>(ids v).isEmpty
def kC (ks:List Nat):AV->Bool
 | .clo _ cs=>cs.all (kK ks)
 | v=>kK ks v
def kV (ks:List Nat):AV->Bool
 | .agg cs=>cs.all (kC ks)
 | .clo _ cs=>cs.all (kC ks)
 | v=>kC ks v
def kR (ks:List Nat):AV->Bool
 | .tup vs=>vs.all (kV ks)
 | v=>kV ks v
def kB (ks:List Nat):OB->Bool
 | .cells _ cs=>cs.all (kC ks)
 | .vec _ _ _ _=>true
 | .vecx _ _ _ _ _ fj=>fj.all (kC ks)
 | _=>false
structure Rn (l:List (Nat × Nat)) (ks:List Nat) (E F:Env):Prop where
 M:∀ b o,E.M b=some o->F.M b=some o
 fns:F.fns=E.fns
 same:∀ c,c ∈ ks->F.blk (renI l c)=E.blk c/\F.hdr (renI l c)=E.hdr c
section
variable {l:List (Nat × Nat)} {ks:List Nat} {E F:Env}
theorem rnK_rel (hr:Rn l ks E F) {v:AV} {u:Value} (ho:kK ks v=true) (h:Rel E true v u):Rel F true (rnK l v) u:=by
 cases v with
 | vec b =>
  have hm:b ∈ ks:=by simpa [kK] using ho
  cases h with
  | vec _ hh h1=>exact .vec _ (by rw [(hr.same b hm).2]; exact hh) h1
 | ptr b p =>
  have hm:b ∈ ks:=by simpa [kK] using ho
  cases h with
  | ptr _ _ hh=>exact .ptr _ p (by rw [(hr.same b hm).1]; exact hh)
 | agg cs=>cases ho
 | clo f cs=>cases ho
 | tup cs=>cases ho
 | _ =>
  simp only [rnK]
  simp only [kK,List.isEmpty_iff] at ho
  exact Rel.trim hr.M hr.fns h (fun _=>ho)
theorem rnK_inv (hM:F.M=E.M) (hf:F.fns=E.fns) (hs:∀ c,c ∈ ks->F.blk (renI l c)=E.blk c/\F.hdr (renI l c)=E.hdr c) {v:AV} {u:Value} (ho:kK ks v=true) (h:Rel F true (rnK l v) u):Rel E true v u:=by
 cases v with
 | vec b =>
  have hm:b ∈ ks:=by simpa [kK] using ho
  cases h with
  | vec _ hh h1=>exact .vec _ (by rw [← (hs b hm).2]; exact hh) h1
 | ptr b p =>
  have hm:b ∈ ks:=by simpa [kK] using ho
  cases h with
  | ptr _ _ hh=>exact .ptr _ p (by rw [← (hs b hm).1]; exact hh)
 | agg cs=>cases ho
 | clo f cs=>cases ho
 | tup cs=>cases ho
 | _ =>
  simp only [rnK] at h
  simp only [kK,List.isEmpty_iff] at ho
  exact Rel.trim (fun b o e=>by rw [← hM]; exact e) hf.symm h (fun _=>ho)
theorem getD_map_any (g:AV->AV) (hg:g .any = .any) (vs:List AV) (k:Nat):(vs.map g).getD k .any=g (vs.getD k .any):=by
 by_cases hlt:k < vs.length
 ·simp [List.getD,List.getElem?_eq_getElem hlt]
 ·rw [List.getD_eq_getElem?_getD,List.getElem?_eq_none (by simpa using hlt),List.getD_eq_getElem?_getD,List.getElem?_eq_none (by omega)]
  exact hg.symm
theorem all_getD {p:AV->Bool} (hp:p .any=true) {vs:List AV} (h:vs.all p=true) (k:Nat):p (vs.getD k .any)=true:=by
 by_cases hlt:k < vs.length
 ·rw [List.all_eq_true] at h
  have:vs.getD k .any=vs[k]:=by simp [List.getD,List.getElem?_eq_getElem hlt]
  rw [this]; exact h _ (List.getElem_mem hlt)
 ·rw [List.getD_eq_getElem?_getD,List.getElem?_eq_none (by omega)]; exact hp
theorem rnC_rel (hr:Rn l ks E F) {v:AV} {u:Value} (ho:kC ks v=true) (h:Rel E true v u):Rel F true (rnC l v) u:=by
 cases v with
 | clo f cs =>
  cases h with
  | clo _ hl hk=>exact .clo f (by rw [List.length_map]; exact hl) fun k=>by rw [getD_map_any _ rfl]; exact rnK_rel hr (all_getD (p:=kK ks) rfl ho k) (hk k)
 | _ =>
  simp only [rnC]
  simp only [kC] at ho
  exact rnK_rel hr ho h
theorem rnC_inv (hM:F.M=E.M) (hf:F.fns=E.fns) (hs:∀ c,c ∈ ks->F.blk (renI l c)=E.blk c/\F.hdr (renI l c)=E.hdr c) {v:AV} {u:Value} (ho:kC ks v=true) (h:Rel F true (rnC l v) u):Rel E true v u:=by
 cases v with
 | clo f cs =>
  cases h with
  | clo _ hl hk=>exact .clo f (by rw [List.length_map] at hl; exact hl) fun k=>by have:=hk k; rw [getD_map_any _ rfl] at this; exact rnK_inv hM hf hs (all_getD (p:=kK ks) rfl ho k) this
 | _ =>
  simp only [rnC] at h
  simp only [kC] at ho
  exact rnK_inv hM hf hs ho h
theorem rnL_rel (hr:Rn l ks E F):∀ {cs:List AV} {us:List Value},cs.all (kC ks)=true->RelL E true cs us->RelL F true (cs.map (rnC l)) us:=by
 intro cs
 induction cs with
 | nil=>intro us _ h; cases h; exact .nil
 | cons c cs ih =>
  intro us ho h
  simp only [List.all_cons,Bool.and_eq_true] at ho
  cases h with
  | cons h h1 hs=>exact .cons (rnC_rel hr ho.1 h) h1 (ih ho.2 hs)
  | arr g hg h hs=>exact .arr g hg (fun i hi=>(h i hi).trim hr.M hr.fns) (ih ho.2 hs)
theorem rnL_inv (hM:F.M=E.M) (hf:F.fns=E.fns) (hs:∀ c,c ∈ ks->F.blk (renI l c)=E.blk c/\F.hdr (renI l c)=E.hdr c):∀ {cs:List AV} {us:List Value},cs.all (kC ks)=true->RelL F true (cs.map (rnC l)) us->RelL E true cs us:=by
 intro cs
 induction cs with
 | nil=>intro us _ h; cases h; exact .nil
 | cons c cs ih =>
  intro us ho h
  simp only [List.all_cons,Bool.and_eq_true] at ho
  rw [List.map_cons] at h
  generalize hz:rnC l c=z at h
  cases h with
  | cons h h1 hs'=>subst hz; exact .cons (rnC_inv hM hf hs ho.1 h) h1 (ih ho.2 hs')
  | arr g hg h hs' =>
   rename_i sz n f us
   have:c = .arr sz n f:=by cases c <;> simp only [rnC,rnK] at hz <;> first | exact hz | cases hz
   subst this
   exact .arr g hg (fun i hi=>(h i hi).trim (fun b o e=>by rw [← hM]; exact e) hf.symm) (ih ho.2 hs')
theorem rnV_inv (hM:F.M=E.M) (hf:F.fns=E.fns) (hs:∀ c,c ∈ ks->F.blk (renI l c)=E.blk c/\F.hdr (renI l c)=E.hdr c) {v:AV} {u:Value} (ho:kV ks v=true) (h:Rel F true (rnV l v) u):Rel E true v u:=by
 cases v with
 | agg cs=>cases h with | agg hl=>exact .agg (rnL_inv hM hf hs ho hl)
 | clo f cs =>
  cases h with
  | clo _ hl hk=>exact .clo f (by rw [List.length_map] at hl; exact hl) fun k=>by have:=hk k; rw [getD_map_any _ rfl] at this; exact rnC_inv hM hf hs (all_getD (p:=kC ks) rfl ho k) this
 | _ =>
  simp only [rnV] at h
  simp only [kV] at ho
  exact rnC_inv hM hf hs ho h
theorem rnB_inv {C C':Ctx} {w:World} {c:Nat} {ob:OB} (hM:F.M=E.M) (hf:F.fns=E.fns) (hs:∀ c,c ∈ ks->F.blk (renI l c)=E.blk c/\F.hdr (renI l c)=E.hdr c) (hav:∀ k,C.avail k->C'.avail k) (hc:c ∈ ks) (ho:kB ks ob=true) (h:OwnOB C F w (renI l c) (rnB l ob)):OwnOB C' E w c ob:=by
 have hb:=(hs c hc).1
 have hh:=(hs c hc).2
 have tr:∀ {cs:List AV} {us:List Value},RelL F false cs us->RelL E false cs us:=fun h=>h.trim (fun b o e=>by rw [← hM]; exact e) hf.symm
 cases ob with
 | cells t cs =>
  obtain ⟨k,us,h1,h2,h3,h4,h5⟩:=h
  exact ⟨k,us,by rw [← hb]; exact h1,hav k h2,by rw [← hM]; exact h3,h4,rnL_inv hM hf hs ho h5⟩
 | vec t sz n f =>
  obtain ⟨hd,g,h1,h2,h3,h4,h5,h6⟩:=h
  exact ⟨hd,g,by rw [← hh]; exact h1,h2,h3,fun i hi=>tr (h4 i hi),by rw [← hb]; exact h5,fun k hk=>⟨hav k (h6 k hk).1,by rw [← hM]; exact (h6 k hk).2⟩⟩
 | vecx t sz n f j fj =>
  obtain ⟨hd,g,h1,h2,h3,h4,h7,h5,h6⟩:=h
  exact ⟨hd,g,by rw [← hh]; exact h1,h2,h3,fun i hi hij=>tr (h4 i hi hij),fun hj=>rnL_inv hM hf hs ho (h7 hj),by rw [← hb]; exact h5,fun k hk=>⟨hav k (h6 k hk).1,by rw [← hM]; exact (h6 k hk).2⟩⟩
 | _=>cases ho
theorem rnB_own {C C':Ctx} {w:World} {c:Nat} {ob:OB} (hr:Rn l ks E F) (hMM:∀ b,E.M b=none->F.M b=none) (hav:∀ k,C.avail k->C'.avail k) (hc:c ∈ ks) (ho:kB ks ob=true) (h:OwnOB C E w c ob):OwnOB C' F w (renI l c) (rnB l ob):=by
 have hb:=(hr.same c hc).1
 have hh:=(hr.same c hc).2
 cases ob with
 | cells t cs =>
  obtain ⟨k,us,h1,h2,h3,h4,h5⟩:=h
  exact ⟨k,us,by rw [hb]; exact h1,hav k h2,hMM k h3,h4,rnL_rel hr ho h5⟩
 | vec t sz n f =>
  obtain ⟨hd,g,h1,h2,h3,h4,h5,h6⟩:=h
  exact ⟨hd,g,by rw [hh]; exact h1,h2,h3,fun i hi=>(h4 i hi).trim hr.M hr.fns,by rw [hb]; exact h5,fun k hk=>⟨hav k (h6 k hk).1,hMM k (h6 k hk).2⟩⟩
 | vecx t sz n f j fj =>
  obtain ⟨hd,g,h1,h2,h3,h4,h7,h5,h6⟩:=h
  exact ⟨hd,g,by rw [hh]; exact h1,h2,h3,fun i hi hij=>(h4 i hi hij).trim hr.M hr.fns,fun hj=>rnL_rel hr ho (h7 hj),by rw [hb]; exact h5,fun k hk=>⟨hav k (h6 k hk).1,hMM k (h6 k hk).2⟩⟩
 | _=>cases ho
end
structure IoSpec where
 args:List AV
 pre:Prop:=True
 fnok:Env->Prop:=fun _=>True
 hin:List (Nat × OB):=[]
 res:AV
 hout:List (Nat × OB):=[]
def IoSpec.at (s:IoSpec) (l:List (Nat × Nat)):CallSpec:={ args:=s.args.map (rnV l),pre:=s.pre,fnok:=s.fnok,hin:=s.hin.map (fun p=>(renI l p.1,rnB l p.2)),res:=rnR l s.res,hout:=s.hout.map (fun p=>(renI l p.1,rnB l p.2)) }
def IoSpec.ok (s:IoSpec) (N:Nat) (ks:List Nat):Bool :=
 noDup ks && noDup (s.hin.map (·.1)) && noDup (s.hout.map (·.1)) && s.args.all (kV (s.hin.map (·.1))) && s.hin.all (fun p=>kB (s.hin.map (·.1)) p.2 && ks.contains p.1 && decide (p.1 < N)) && kR (s.hout.map (·.1)) s.res && s.hout.all (fun p=>kB (s.hout.map (·.1)) p.2 && ks.contains p.1)
section
variable {C:Ctx} {nt:Nat} {st:ASt}
theorem ent_n {st2:ASt} (N:Nat) (hE0:∀ j,N<=j->C.E0.blk j=none/\C.E0.hdr j=none) (bs:List Nat) (mp:List (Nat × Src)) (kt kh:List Nat) (q:Prop) (hb:entB N st2 bs mp=true) (he:entK st st2 bs mp kt kh=q) (hq:q):Ent C nt st st2 :=
 ent_of hE0 bs mp hb (entK_Q (by rw [he]; exact hq))
end
end Go.Ab
namespace Go.Ab
open Go Go.RowKit
structure SameB (E F:Env):Prop where
 blk:F.blk=E.blk
 hdr:F.hdr=E.hdr
end Go.Ab
