/- Part 1 of the proof: own library, plain forms and walks. -/
import Derived.Laws.OwnMore
import Derived.Laws.Tables
import Derived.Laws.MakeOwn
import Derived.Below
import Derived.Deep.LoopGhost
import Derived.KernelRfl
import Derived.Maps.OwnSet
import Derived.RangeFuncNested
import Derived.RangeFuncBound
import Derived.RangeFuncCalls
import Derived.OrdersIn
import Derived.TacticsIn
import Derived.Sort.LoopGhostIn
import Derived.Laws.CopyRow
import Derived.Laws.Cells
import Derived.Laws.StructEq
import Derived.IntWalk
import Derived.Laws.Slices
import Derived.ArgAppend
import Derived.Maps.AppendAt
set_option linter.all false
set_option linter.deprecated false
namespace Go.Ab
open Go Go.RowKit
inductive PS where
 | fld (k:Nat)
 | idx (i sz:Nat)
 deriving DecidableEq
inductive AV where
 | any
 | lit (v:Value)
 | agg (cs:List AV)
 | tup (cs:List AV)
 | arr (sz n:Nat) (f:Nat->List AV)
 | sl (sz n:Nat) (f:Nat->List AV)
 | slc (sz n:Nat) (f:Nat->List AV)
 | rp (cs:List AV)
 | mth (f:FuncId) (cs:List AV)
 | mtv (f:FuncId) (cs:List AV)
 | opt (g:Bool) (cs:List AV)
 | osl (g:Bool) (sz n:Nat) (f:Nat->List AV)
 | mz (P:Program) (kt et:TypeId) (q:IntKind) (es:List (Int × Int))
 | ptr (b:Nat) (p:List PS)
 | vec (b:Nat)
 | vp (b i sz:Nat) (p:List PS)
 | win (b:Nat) (p:List PS) (sz n:Nat)
 | fn (k:Nat)
 | clo (f:FuncId) (caps:List AV)
 | cnd (g:Bool) (v:AV)
 deriving Inhabited
def poff:List PS->Nat
 | []=>0
 | .fld k :: r=>k + poff r
 | .idx i sz :: r=>i * sz + poff r
def capP:List PS->Nat
 | [.idx 0 0,.idx 0 c]=>c
 | _=>0
theorem capP_one (x:PS):capP [x]=0:=by cases x <;> simp [capP]
structure Env where
 M:Nat->Option Obj
 blk:Nat->Option Nat
 hdr:Nat->Option Value
 fns:Nat->Value->Prop
def mcell (M:Nat->Option Obj) (b off:Nat):Option Value :=
 match M b with
 | some (.cells c _ _)=>c[off]?
 | _=>none
def mapD (q:IntKind) (es:List (Int × Int)):DataW Unit:=es.foldl (fun D p=>D.put (.int .i64 p.1) (.lit (.int q p.2))) (.map [])
mutual
inductive Rel (E:Env):Bool->AV->Value->Prop
 | any {o} (u:Value):Rel E o .any u
 | lit {o} (v:Value):Rel E o (.lit v) v
 | agg {o} {cs:List AV} {us:List Value} (h:RelL E o cs us):Rel E o (.agg cs) (.agg us.toArray)
 | tup {o} {cs:List AV} {us:List Value} (hl:us.length=cs.length) (h:∀ k,Rel E o (cs.getD k .any) (us.getD k undef)):Rel E o (.tup cs) (.tuple us.toArray)
 | slN {o} (sz:Nat) (f:Nat->List AV):Rel E o (.sl sz 0 f) (.slice none 0 0)
 | slA {o} (sz n:Nat) (f:Nat->List AV) (b off cap:Nat) (g:Nat->List Value) (hn:n<=cap) (hc:cap<=maxLen) (hg:∀ i,i < n->(g i).length=sz)
   (hm:∀ i k,i < n->k < sz->mcell E.M b (off + i * sz + k)=(g i)[k]?) (h:∀ i,i < n->RelL E false (f i) (g i)):Rel E o (.sl sz n f) (.slice (some ⟨b,off,none⟩) n cap)
 | slZ {o} (sz:Nat) (f:Nat->List AV) (a:Addr):Rel E o (.sl sz 0 f) (.slice (some a) 0 0)
 | slcN {o} (sz:Nat) (f:Nat->List AV):Rel E o (.slc sz 0 f) (.slice none 0 0)
 | slcA {o} (sz n:Nat) (f:Nat->List AV) (b off:Nat) (g:Nat->List Value) (hc:n<=maxLen) (hg:∀ i,i < n->(g i).length=sz)
   (hm:∀ i k,i < n->k < sz->mcell E.M b (off + i * sz + k)=(g i)[k]?) (h:∀ i,i < n->RelL E false (f i) (g i)):Rel E o (.slc sz n f) (.slice (some ⟨b,off,none⟩) n n)
 | slcZ {o} (sz:Nat) (f:Nat->List AV) (a:Addr):Rel E o (.slc sz 0 f) (.slice (some a) 0 0)
 | rp {o} {cs:List AV} {us:List Value} (b off:Nat) (hm:∀ k,k < us.length->mcell E.M b (off + k)=us[k]?) (h:RelL E false cs us):Rel E o (.rp cs) (.pointer (some ⟨b,off,none⟩))
 | mth {o} {f:FuncId} {cs:List AV} {us:List Value} (b off:Nat) (hm:∀ k,k < us.length->mcell E.M b (off + k)=us[k]?) (h:RelL E false cs us):Rel E o (.mth f cs) (.func (.func f) #[.pointer (some ⟨b,off,none⟩)] #[])
 | mtv {o} {f:FuncId} {cs:List AV} {us:List Value} (h:RelL E false cs us):Rel E o (.mtv f cs) (.func (.func f) #[.agg us.toArray] #[])
 | optN {o} {g:Bool} (cs:List AV) (h:g=false):Rel E o (.opt g cs) (.pointer none)
 | optS {o} {g:Bool} {cs:List AV} {us:List Value} (b off:Nat) (hg:g=true) (hm:∀ k,k < us.length->mcell E.M b (off + k)=us[k]?) (h:RelL E false cs us):Rel E o (.opt g cs) (.pointer (some ⟨b,off,none⟩))
 | oslN {o} {g:Bool} (sz n:Nat) (f:Nat->List AV) (h:g=false):Rel E o (.osl g sz n f) (.slice none 0 0)
 | oslS {o} {g:Bool} {sz n:Nat} {f:Nat->List AV} (a:Addr) (k c:Nat) (hg:g=true) (h:Rel E o (.sl sz n f) (.slice (some a) k c)):Rel E o (.osl g sz n f) (.slice (some a) k c)
 | mz {o} {P:Program} {kt et:TypeId} {q:IntKind} {es:List (Int × Int)} (b:Nat) (a:Array MapEntry) (c:Nat) (hM:E.M b=some (.map a c)) (hw:∀ w:World,w.heap[b]? = some (.map a c)->w.ownsMap P kt (plainElem P et) b es.length (mapD q es)):Rel E o (.mz P kt et q es) (.map (some b))
 | ptr {k:Nat} (b:Nat) (p:List PS) (h:E.blk b=some k):Rel E true (.ptr b p) (.pointer (some ⟨k,poff p,none⟩))
 | vec {u:Value} (b:Nat) (h:E.hdr b=some u) (h1:u.oneCell'=true):Rel E true (.vec b) u
 | vp {k n c:Nat} (b i sz:Nat) (p:List PS) (h:E.hdr b=some (.slice (some ⟨k,0,none⟩) n c)):Rel E true (.vp b i sz p) (.pointer (some ⟨k,i * sz + poff p,none⟩))
 | win {k cap:Nat} (b:Nat) (p:List PS) (sz n:Nat) (h:E.blk b=some k) (hn:n<=cap/\capP p<=cap/\(capP p ≠ 0->E.hdr b=some (.slice (some ⟨k,0,none⟩) (capP p) cap))):Rel E true (.win b p sz n) (.slice (some ⟨k,poff p,none⟩) n cap)
 | fn {u:Value} (k:Nat) (h:E.fns k u):Rel E true (.fn k) u
 | clo {o} {caps:List AV} {us:List Value} (f:FuncId) (hl:us.length=caps.length) (h:∀ k,Rel E o (caps.getD k .any) (us.getD k undef)):Rel E o (.clo f caps) (.func (.func f) #[] us.toArray)
 | cnd {o} {g:Bool} {v:AV} {u:Value} (h1:g=true->Rel E o v u) (h2:g=false->u=undef):Rel E o (.cnd g v) u
inductive RelL (E:Env):Bool->List AV->List Value->Prop
 | nil {o}:RelL E o [] []
 | cons {o} {v:AV} {u:Value} {cs:List AV} {us:List Value} (h:Rel E o v u) (h1:u.oneCell'=true) (hs:RelL E o cs us):RelL E o (v :: cs) (u :: us)
 | arr {o} {sz n:Nat} {f:Nat->List AV} {cs:List AV} {us:List Value} (g:Nat->List Value) (hg:∀ i,i < n->(g i).length=sz) (h:∀ i,i < n->RelL E false (f i) (g i)) (hs:RelL E o cs us) :
   RelL E o (.arr sz n f :: cs) ((List.range n).flatMap g ++ us)
end
structure Env.le (E F:Env):Prop where
 M:∀ b o,E.M b=some o->F.M b=some o
 blk:∀ b k,E.blk b=some k->F.blk b=some k
 hdr:∀ b u,E.hdr b=some u->F.hdr b=some u
 fns:F.fns=E.fns
theorem Env.le.refl (E:Env):E.le E:=⟨fun _ _ h=>h,fun _ _ h=>h,fun _ _ h=>h,rfl⟩
theorem Env.le.trans {E F G:Env} (h:E.le F) (k:F.le G):E.le G :=
 ⟨fun _ _ e=>k.M _ _ (h.M _ _ e),fun _ _ e=>k.blk _ _ (h.blk _ _ e),fun _ _ e=>k.hdr _ _ (h.hdr _ _ e),k.fns.trans h.fns⟩
theorem mcell_mono {M N:Nat->Option Obj} (h:∀ b o,M b=some o->N b=some o) {b off:Nat} {u:Value} (hm:mcell M b off=some u):mcell N b off=some u:=by
 unfold mcell at hm ⊢
 split at hm
 ·rename_i c _ _ e; rw [h _ _ e]; exact hm
 ·cases hm
theorem mcell_mono' {M N:Nat->Option Obj} (h:∀ b o,M b=some o->N b=some o) {b off k:Nat} {us:List Value} (hk:k < us.length) (hm:mcell M b off=us[k]?):mcell N b off=us[k]? := by
 rw [List.getElem?_eq_getElem hk] at hm ⊢
 exact mcell_mono h hm
theorem Rel.mono {E F:Env} (le:E.le F):∀ {o:Bool} {av:AV} {u:Value},Rel E o av u->Rel F o av u:=by
 intro o av u h
 refine Rel.rec (motive_1:=fun o av u _=>Rel F o av u) (motive_2:=fun o cs us _=>RelL F o cs us) ?_ ?_ ?_ ?_ ?_ ?_ ?_ ?_ ?_ ?_ ?_ ?_ ?_ ?_ ?_ ?_ ?_ ?_ ?_ ?_ ?_ ?_ ?_ ?_ ?_ ?_ ?_ ?_ h
 ·intro o u; exact .any u
 ·intro o u; exact .lit u
 ·intro o cs us _ ih; exact .agg ih
 ·intro o cs us hl _ ih; exact .tup hl ih
 ·intro o sz f; exact .slN sz f
 ·intro o sz n f b off cap g hn hc hg hm _ ih
  exact .slA sz n f b off cap g hn hc hg (fun i k hi hk=>mcell_mono' le.M (by rw [hg i hi]; exact hk) (hm i k hi hk)) ih
 ·intro o sz f a; exact .slZ sz f a
 ·intro o sz f; exact .slcN sz f
 ·intro o sz n f b off g hc hg hm _ ih
  exact .slcA sz n f b off g hc hg (fun i k hi hk=>mcell_mono' le.M (by rw [hg i hi]; exact hk) (hm i k hi hk)) ih
 ·intro o sz f a; exact .slcZ sz f a
 ·intro o cs us b off hm _ ih; exact .rp b off (fun k hk=>mcell_mono' le.M hk (hm k hk)) ih
 ·intro o f cs us b off hm _ ih; exact .mth b off (fun k hk=>mcell_mono' le.M hk (hm k hk)) ih
 ·intro o f cs us _ ih; exact .mtv ih
 ·intro o g cs h; exact .optN cs h
 ·intro o g cs us b off hg hm _ ih; exact .optS b off hg (fun k hk=>mcell_mono' le.M hk (hm k hk)) ih
 ·intro o g sz n f h; exact .oslN sz n f h
 ·intro o g sz n f a k c hg _ ih; exact .oslS a k c hg ih
 ·intro o P kt et q es b a c hM hw; exact .mz b a c (le.M _ _ hM) hw
 ·intro k b p h; exact .ptr b p (le.blk _ _ h)
 ·intro u b h h1; exact .vec b (le.hdr _ _ h) h1
 ·intro k n c b i sz p h; exact .vp b i sz p (le.hdr _ _ h)
 ·intro k cap b p sz n h hn; exact .win b p sz n (le.blk _ _ h) ⟨hn.1,hn.2.1,fun hc=>le.hdr _ _ (hn.2.2 hc)⟩
 ·intro u k h; exact .fn k (by rw [le.fns]; exact h)
 ·intro o caps us f hl _ ih; exact .clo f hl ih
 ·intro o g v u _ h2 ih; exact .cnd ih h2
 ·intro o; exact .nil
 ·intro o v u cs us _ h1 _ ih ihs; exact .cons ih h1 ihs
 ·intro o sz n f cs us g hg _ _ ih ihs; exact .arr g hg ih ihs
theorem RelL.mono {E F:Env} (le:E.le F):∀ {o:Bool} {cs:List AV} {us:List Value},RelL E o cs us->RelL F o cs us:=by
 intro o cs
 induction cs with
 | nil=>intro us h; cases h; exact .nil
 | cons c cs ih =>
  intro us h
  cases h with
  | cons h h1 hs=>exact .cons (h.mono le) h1 (ih hs)
  | arr g hg h hs =>
   refine .arr g hg (fun i hi => ?_) (ih hs)
   have:=Rel.mono le (o:=false) (.agg (h i hi))
   cases this with
   | agg hh=>simpa using hh
theorem Rel.up {E:Env}:∀ {o:Bool} {av:AV} {u:Value},Rel E o av u->Rel E true av u:=by
 intro o av u h
 refine Rel.rec (motive_1:=fun o av u _=>Rel E true av u) (motive_2:=fun o cs us _=>RelL E true cs us/\RelL E o cs us) ?_ ?_ ?_ ?_ ?_ ?_ ?_ ?_ ?_ ?_ ?_ ?_ ?_ ?_ ?_ ?_ ?_ ?_ ?_ ?_ ?_ ?_ ?_ ?_ ?_ ?_ ?_ ?_ h
 ·intro o u; exact .any u
 ·intro o u; exact .lit u
 ·intro o cs us _ ih; exact .agg ih.1
 ·intro o cs us hl _ ih; exact .tup hl ih
 ·intro o sz f; exact .slN sz f
 ·intro o sz n f b off cap g hn hc hg hm _ ih
  exact .slA sz n f b off cap g hn hc hg hm (fun i hi=>(ih i hi).2)
 ·intro o sz f a; exact .slZ sz f a
 ·intro o sz f; exact .slcN sz f
 ·intro o sz n f b off g hc hg hm _ ih
  exact .slcA sz n f b off g hc hg hm (fun i hi=>(ih i hi).2)
 ·intro o sz f a; exact .slcZ sz f a
 ·intro o cs us b off hm _ ih; exact .rp b off hm ih.2
 ·intro o f cs us b off hm _ ih; exact .mth b off hm ih.2
 ·intro o f cs us _ ih; exact .mtv ih.2
 ·intro o g cs h; exact .optN cs h
 ·intro o g cs us b off hg hm _ ih; exact .optS b off hg hm ih.2
 ·intro o g sz n f h; exact .oslN sz n f h
 ·intro o g sz n f a k c hg _ ih; exact .oslS a k c hg ih
 ·intro o P kt et q es b a c hM hw; exact .mz b a c hM hw
 ·intro k b p h; exact .ptr b p h
 ·intro u b h h1; exact .vec b h h1
 ·intro k n c b i sz p h; exact .vp b i sz p h
 ·intro k cap b p sz n h hn; exact .win b p sz n h hn
 ·intro u k h; exact .fn k h
 ·intro o caps us f hl _ ih; exact .clo f hl ih
 ·intro o g v u _ h2 ih; exact .cnd ih h2
 ·intro o; exact ⟨.nil,.nil⟩
 ·intro o v u cs us h h1 _ ih ihs; exact ⟨.cons ih h1 ihs.1,.cons h h1 ihs.2⟩
 ·intro o sz n f cs us g hg h _ ih ihs; exact ⟨.arr g hg h ihs.1,.arr g hg h ihs.2⟩
theorem RelL.up {E:Env}:∀ {o:Bool} {cs:List AV} {us:List Value},RelL E o cs us->RelL E true cs us:=by
 intro o cs
 induction cs with
 | nil=>intro us h; cases h; exact .nil
 | cons c cs ih =>
  intro us h
  cases h with
  | cons h h1 hs=>exact .cons h.up h1 (ih hs)
  | arr g hg h hs=>exact .arr g hg h (ih hs)
def clen:List AV->Nat
 | []=>0
 | .arr sz n _ :: r=>n * sz + clen r
 | _ :: r=>1 + clen r
theorem flat_length (g:Nat->List Value) (sz:Nat):∀ n,(∀ i,i < n->(g i).length=sz)->((List.range n).flatMap g).length=n * sz:=by
 intro n
 induction n with
 | zero=>intro _; simp
 | succ n ih =>
  intro h
  rw [List.range_succ,List.flatMap_append,List.length_append,ih (fun i hi=>h i (by omega))]
  simp [h n (by omega),Nat.add_mul]
theorem RelL.length {E:Env} {o:Bool}:∀ {cs:List AV} {us:List Value},RelL E o cs us->us.length=clen cs:=by
 intro cs
 induction cs with
 | nil=>intro us h; cases h; rfl
 | cons c cs ih =>
  intro us h
  cases h with
  | cons h h1 hs =>
   have hr:=ih hs
   cases c <;> simp only [clen,List.length_cons,hr] <;> first | omega | (cases h)
  | arr g hg h hs=>simp only [clen,List.length_append,flat_length g _ _ hg,ih hs]
theorem RelL.oneCell {E:Env} {o:Bool} {cs:List AV} {us:List Value} (h:RelL E o cs us):∀ u ∈ us,u.oneCell'=true:=by
 refine RelL.rec (motive_1:=fun _ _ _ _=>True) (motive_2:=fun _ _ us _ => ∀ u ∈ us,u.oneCell'=true) ?_ ?_ ?_ ?_ ?_ ?_ ?_ ?_ ?_ ?_ ?_ ?_ ?_ ?_ ?_ ?_ ?_ ?_ ?_ ?_ ?_ ?_ ?_ ?_ ?_ ?_ ?_ ?_ h
 all_goals try (intros; exact True.intro)
 ·intro o u hu; cases hu
 ·intro o v u cs us _ h1 _ _ ih u' hu
  cases hu with
  | head=>exact h1
  | tail _ hu=>exact ih _ hu
 ·intro o sz n f cs us g hg _ _ ih ihs u hu
  rcases List.mem_append.1 hu with hu | hu
  ·obtain ⟨i,hi,hu⟩:=List.mem_flatMap.1 hu
   exact ih i (List.mem_range.1 hi) u hu
  ·exact ihs u hu
end Go.Ab
namespace Go.Ab
open Go Go.RowKit
inductive OB where
 | cells (t:TypeId) (cs:List AV)
 | fz (t:TypeId) (cs:List AV)
 | vec (t:TypeId) (sz n:Nat) (f:Nat->List AV)
 | mp (t:TypeId) (q:IntKind) (es:List (Int × Int))
 | vecx (t:TypeId) (sz n:Nat) (f:Nat->List AV) (j:Nat) (fj:List AV)
 deriving Inhabited
structure Ctx where
 P:Program
 w0:World
 E0:Env
 avail:Nat->Prop
 hA:∀ b,w0.heap.size<=b->avail b
 ro:Option Nat:=none
 df:Bool:=false
def Ctx.F (C:Ctx):Fence:={ fn:=fun _=>True,depth:=none,alive:=false,round:=C.ro }
abbrev Heap:=Nat->Option OB
def OwnOB (C:Ctx) (E:Env) (w:World) (id:Nat):OB->Prop
 | .cells t cs => ∃ k us,E.blk id=some k/\C.avail k/\E.M k=none/\w.heap[k]? = some (.cells (List.toArray us) t (0,0))/\RelL E true cs us
 | .fz t cs => ∃ k us,E.blk id=some k/\E.M k=some (.cells (List.toArray us) t (0,0))/\RelL E false cs us
 | .vec t sz n f => ∃ hd g,E.hdr id=some hd/\w.ownsRow 0 t sz hd n ((List.range n).flatMap g)/\(∀ i,i < n->(g i).length=sz)/\(∀ i,i < n->RelL E false (f i) (g i)) ∧
   E.blk id=hd.ownBlock/\(∀ k,hd.ownBlock=some k->C.avail k/\E.M k=none)
 | .mp t q es => ∃ k kt et,E.hdr id=some (.map (some k))/\E.blk id=some k/\C.avail k/\E.M k=none/\C.P.underlying t=some (.map kt et)/\C.P.underlying kt=some (.int .i64)/\C.P.underlying et=some (.int q) ∧
   w.ownsMap C.P kt (plainElem C.P et) k es.length (mapD q es)
 | .vecx t sz n f j fj => ∃ hd g,E.hdr id=some hd/\w.ownsRow 0 t sz hd n ((List.range n).flatMap g)/\(∀ i,i < n->(g i).length=sz)/\(∀ i,i < n->i ≠ j->RelL E false (f i) (g i))/\(j < n->RelL E true fj (g j)) ∧
   E.blk id=hd.ownBlock/\(∀ k,hd.ownBlock=some k->C.avail k/\E.M k=none)
structure HeapOK (C:Ctx) (E:Env) (H:Heap) (w:World):Prop where
 os:w.os=C.w0.os
 tape:w.tape=C.w0.tape
 output:w.output=C.w0.output
 size:C.w0.heap.size<=w.heap.size
 pres:∀ b,¬ C.avail b->w.heap[b]? = C.w0.heap[b]?
 mem:∀ b o,E.M b=some o->w.heap[b]? = some o
 le:C.E0.le E
 ext:∀ b o,E.M b=some o->C.E0.M b=some o ∨ C.avail b
 own:∀ id ob,H id=some ob->OwnOB C E w id ob
 sep:∀ i j k,i ≠ j->H i ≠ none->H j ≠ none->E.blk i=some k->E.blk j=some k->False
theorem mcell_cell {E:Env} {w:World} (h:∀ b o,E.M b=some o->w.heap[b]? = some o) {b off:Nat} {u:Value} (hm:mcell E.M b off=some u):w.cell? ⟨b,off,none⟩=some u:=by
 unfold mcell at hm
 split at hm
 ·rename_i c t fr e
  simp [World.cell?,h _ _ e,hm]
 ·cases hm
theorem HeapOK.cell {C:Ctx} {E:Env} {H:Heap} {w:World} (h:HeapOK C E H w) {b off:Nat} {u:Value} (hm:mcell E.M b off=some u):w.cell? ⟨b,off,none⟩=some u:=mcell_cell h.mem hm
theorem HeapOK.drew {C:Ctx} {E:Env} {H:Heap} {w:World} (h:HeapOK C E H w):HeapOK C E H w.drew :=
 ⟨h.os,h.tape,h.output,h.size,h.pres,h.mem,h.le,h.ext,h.own,h.sep⟩
theorem HeapOK.drop {C:Ctx} {E:Env} {H H':Heap} {w:World} (h:HeapOK C E H w) (hs:∀ i ob,H' i=some ob->H i=some ob):HeapOK C E H' w :=
 ⟨h.os,h.tape,h.output,h.size,h.pres,h.mem,h.le,h.ext,fun i ob hi=>h.own i ob (hs i ob hi),
  fun i j k hij hi hj=>h.sep i j k hij (fun e=>hi (by cases e':H' i with | none=>rfl | some ob=>rw [hs i ob e'] at e; cases e))
   (fun e=>hj (by cases e':H' j with | none=>rfl | some ob=>rw [hs j ob e'] at e; cases e))⟩
theorem OwnOB.kept {C:Ctx} {E E':Env} {w w':World} {row:Option Nat} {id:Nat} {ob:OB} (h:OwnOB C E w id ob) (hg:w.grownBy w' row)
  (le:E.le E') (hbk:E'.blk id=E.blk id) (hM:∀ k,E.M k=none->E.blk id=some k->E'.M k=none) (hne:∀ k,row=some k->E.blk id ≠ some k):OwnOB C E' w' id ob:=by
 cases ob with
 | cells t cs =>
  obtain ⟨k,us,hk,ha,hm,hw,hr⟩:=h
  refine ⟨k,us,le.blk _ _ hk,ha,hM k hm hk,?_,hr.mono le⟩
  rw [hg.block k (Array.getElem?_eq_some_iff.1 hw).1 (fun e=>hne k e.symm hk)]
  exact hw
 | fz t cs =>
  obtain ⟨k,us,hk,hm,hr⟩:=h
  exact ⟨k,us,le.blk _ _ hk,le.M _ _ hm,hr.mono le⟩
 | vec t sz n f =>
  obtain ⟨hd,g,hh,ho,hl,hr,hb,hc⟩:=h
  refine ⟨hd,g,le.hdr _ _ hh,ho.kept hg ?_,hl,fun i hi=>(hr i hi).mono le,hbk.trans hb,fun k hk=>⟨(hc k hk).1,hM k (hc k hk).2 (hb.trans hk)⟩⟩
  cases e:hd.ownBlock with
  | none=>exact .inl rfl
  | some k=>exact .inr (fun e'=>hne k e'.symm (hb.trans e))
 | mp t q es =>
  obtain ⟨k,kt,et,hh,hb,hc,hm,h1,h2,h3,ho⟩:=h
  exact ⟨k,kt,et,le.hdr _ _ hh,hbk.trans hb,hc,hM k hm hb,h1,h2,h3,ho.kept hg (fun e=>hne k e.symm hb)⟩
 | vecx t sz n f j fj =>
  obtain ⟨hd,g,hh,ho,hl,hr,hj,hb,hc⟩:=h
  refine ⟨hd,g,le.hdr _ _ hh,ho.kept hg ?_,hl,fun i hi hij=>(hr i hi hij).mono le,fun h=>(hj h).mono le,hbk.trans hb,fun k hk=>⟨(hc k hk).1,hM k (hc k hk).2 (hb.trans hk)⟩⟩
  cases e:hd.ownBlock with
  | none=>exact .inl rfl
  | some k=>exact .inr (fun e'=>hne k e'.symm (hb.trans e))
def Heap.put (H:Heap) (id:Nat) (ob:Option OB):Heap:=fun i=>if i=id then ob else H i
theorem ownsRow_block_lt {w:World} {base:Nat} {e:TypeId} {size n:Nat} {v:Value} {xs:List Value} (h:w.ownsRow base e size v n xs) {k:Nat} (hk:v.ownBlock=some k):k < w.heap.size:=(h.lt k hk).2
theorem OwnOB.blk_lt {C:Ctx} {E:Env} {w:World} (hm:∀ b o,E.M b=some o->w.heap[b]? = some o) {id:Nat} {ob:OB} (ho:OwnOB C E w id ob) {k:Nat} (hk:E.blk id=some k):k < w.heap.size:=by
 cases ob with
 | cells t cs =>
  obtain ⟨k',us,hk',_,_,hw,_⟩:=ho
  rw [hk'] at hk; cases hk
  exact (Array.getElem?_eq_some_iff.1 hw).1
 | fz t cs =>
  obtain ⟨k',us,hk',hm',_⟩:=ho
  rw [hk'] at hk; cases hk
  exact (Array.getElem?_eq_some_iff.1 (hm _ _ hm')).1
 | vec t sz n f =>
  obtain ⟨hd,g,hh,ho,_,_,hb,_⟩:=ho
  exact ownsRow_block_lt ho (hb.symm.trans hk)
 | mp t q es =>
  obtain ⟨k',kt,et,hh,hb,_,_,_,_,_,ho⟩:=ho
  rw [hb] at hk; cases hk
  exact ho.lt
 | vecx t sz n f j fj =>
  obtain ⟨hd,g,hh,ho,_,_,_,hb,_⟩:=ho
  exact ownsRow_block_lt ho (hb.symm.trans hk)
theorem HeapOK.step {C:Ctx} {E E':Env} {H:Heap} {w w':World} {row:Option Nat} (h:HeapOK C E H w) (id:Nat) (ob:OB) (le:E.le E') (hM:E'.M=E.M)
  (hb:∀ j,j ≠ id->E'.blk j=E.blk j) (hg:w.grownBy w' row)
  (hrow:∀ k,row=some k->C.avail k/\E.M k=none /\ ∀ j,j ≠ id->H j ≠ none->E.blk j ≠ some k)
  (hsep:∀ k,E'.blk id=some k -> ∀ j,j ≠ id->H j ≠ none->E.blk j ≠ some k)
  (hob:OwnOB C E' w' id ob):HeapOK C E' (H.put id (some ob)) w' where
 os:=hg.os.trans h.os
 tape:=hg.tape.trans h.tape
 output:=hg.output.trans h.output
 size:=Nat.le_trans h.size hg.size
 pres:=fun b hb'=>by
  have hlt:b < C.w0.heap.size:=Nat.lt_of_not_le fun hle=>hb' (C.hA b hle)
  rw [hg.block b (Nat.lt_of_lt_of_le hlt h.size) (fun e=>hb' (hrow b e.symm).1)]
  exact h.pres b hb'
 mem:=fun b o hbo=>by
  rw [hM] at hbo
  have hw:=h.mem b o hbo
  rw [hg.block b (Array.getElem?_eq_some_iff.1 hw).1 (fun e=>by rw [(hrow b e.symm).2.1] at hbo; cases hbo)]
  exact hw
 le:=h.le.trans le
 ext:=fun b o hbo=>h.ext b o (by rw [hM] at hbo; exact hbo)
 own:=fun i ob' hi=>by
  unfold Heap.put at hi
  split at hi
  ·rename_i e; subst e; cases hi; exact hob
  ·rename_i hne
   exact (h.own i ob' hi).kept hg le (hb i hne) (fun k hk _=>by rw [hM]; exact hk) (fun k hk=>(hrow k hk).2.2 i hne (by rw [hi]; simp))
 sep:=fun i j k hij hi hj h1 h2=>by
  unfold Heap.put at hi hj
  by_cases ei:i=id
  ·subst ei
   have ej:j ≠ i:=fun e=>hij e.symm
   rw [if_neg ej] at hj
   exact hsep k h1 j ej hj (by rw [← hb j ej]; exact h2)
  ·rw [if_neg ei] at hi
   by_cases ej:j=id
   ·subst ej
    exact hsep k h2 i ei hi (by rw [← hb i ei]; exact h1)
   ·rw [if_neg ej] at hj
    exact h.sep i j k hij hi hj (by rw [← hb i ei]; exact h1) (by rw [← hb j ej]; exact h2)
def Env.setBlk (E:Env) (id:Nat) (k:Nat):Env:={ E with blk:=fun i=>if i=id then some k else E.blk i }
def Env.setHdr (E:Env) (id:Nat) (v:Value):Env:={ E with hdr:=fun i=>if i=id then some v else E.hdr i,blk:=fun i=>if i=id then v.ownBlock else E.blk i }
theorem Env.le_setBlk {E:Env} {id k:Nat} (h:E.blk id=none):E.le (E.setBlk id k) where
 M:=fun _ _ e=>e
 blk:=fun b k' e=>by
  show (if b=id then some k else E.blk b)=some k'
  by_cases e':b=id
  ·subst e'; rw [h] at e; cases e
  ·rw [if_neg e']; exact e
 hdr:=fun _ _ e=>e
 fns:=rfl
theorem Env.le_setHdr {E:Env} {id:Nat} {v:Value} (h:E.blk id=none) (h':E.hdr id=none):E.le (E.setHdr id v) where
 M:=fun _ _ e=>e
 blk:=fun b k' e=>by
  show (if b=id then v.ownBlock else E.blk b)=some k'
  by_cases e':b=id
  ·subst e'; rw [h] at e; cases e
  ·rw [if_neg e']; exact e
 hdr:=fun b u e=>by
  show (if b=id then some v else E.hdr b)=some u
  by_cases e':b=id
  ·subst e'; rw [h'] at e; cases e
  ·rw [if_neg e']; exact e
 fns:=rfl
theorem setBlk_self (E:Env) (id k:Nat):(E.setBlk id k).blk id=some k:=if_pos rfl
theorem setBlk_other (E:Env) (id k j:Nat) (h:j ≠ id):(E.setBlk id k).blk j=E.blk j:=if_neg h
theorem setHdr_self (E:Env) (id:Nat) (v:Value):(E.setHdr id v).hdr id=some v:=if_pos rfl
theorem setHdr_blk (E:Env) (id:Nat) (v:Value):(E.setHdr id v).blk id=v.ownBlock:=if_pos rfl
theorem setHdr_other (E:Env) (id:Nat) (v:Value) (j:Nat) (h:j ≠ id):(E.setHdr id v).blk j=E.blk j:=if_neg h
theorem HeapOK.fresh_blk {C:Ctx} {E:Env} {H:Heap} {w:World} (h:HeapOK C E H w):∀ j,H j ≠ none->E.blk j ≠ some w.heap.size:=by
 intro j hj hk
 cases e:H j with
 | none=>exact hj e
 | some ob=>exact absurd (OwnOB.blk_lt h.mem (h.own j ob e) hk) (Nat.lt_irrefl _)
theorem HeapOK.fresh_M {C:Ctx} {E:Env} {H:Heap} {w:World} (h:HeapOK C E H w):E.M w.heap.size=none:=by
 cases e:E.M w.heap.size with
 | none=>rfl
 | some o=>exact absurd (Array.getElem?_eq_some_iff.1 (h.mem _ _ e)).1 (Nat.lt_irrefl _)
theorem HeapOK.newCells {C:Ctx} {E:Env} {H:Heap} {w:World} (h:HeapOK C E H w) (id:Nat) (h1:E.blk id=none) (t:TypeId) (cs:List AV) (us:List Value) (hr:RelL E true cs us) :
  HeapOK C (E.setBlk id w.heap.size) (H.put id (some (.cells t cs))) (w.alloc (.cells us.toArray t)):=by
 have le:=Env.le_setBlk (k:=w.heap.size) h1
 refine h.step (row:=none) id _ le rfl (fun j hj=>setBlk_other _ _ _ _ hj) (World.grownBy_alloc w _ none) (fun k hk=>by cases hk) ?_ ?_
 ·intro k hk j _ hH
  rw [setBlk_self] at hk; cases hk
  exact h.fresh_blk j hH
 ·exact ⟨w.heap.size,us,setBlk_self _ _ _,C.hA _ h.size,h.fresh_M,heap_alloc_new w _,hr.mono le⟩
theorem HeapOK.setCells {C:Ctx} {E:Env} {H:Heap} {w w':World} (h:HeapOK C E H w) (id k:Nat) (t:TypeId) (cs:List AV) (us:List Value) (hH:H id ≠ none) (hk:E.blk id=some k) (ha:C.avail k) (hM:E.M k=none)
  (hg:w.grownBy w' (some k)) (hw:w'.heap[k]? = some (.cells us.toArray t (0,0))) (hr:RelL E true cs us) :
  HeapOK C E (H.put id (some (.cells t cs))) w':=by
 refine h.step id _ (Env.le.refl E) rfl (fun _ _=>rfl) hg ?_ ?_ ⟨k,us,hk,ha,hM,hw,hr⟩
 ·intro k' hk'
  cases hk'
  exact ⟨ha,hM,fun j hj hHj e=>h.sep j id k hj hHj hH e hk⟩
 ·intro k' hk' j hj hHj e
  exact h.sep j id k' hj hHj hH e hk'
theorem HeapOK.newVec {C:Ctx} {E:Env} {H:Heap} {w w':World} (h:HeapOK C E H w) (id:Nat) (h1:E.blk id=none) (h2:E.hdr id=none) (row:Option Nat) (hg:w.grownBy w' row)
  (hrow:∀ k,row=some k->C.avail k/\E.M k=none /\ ∀ j,H j ≠ none->E.blk j ≠ some k)
  (t:TypeId) (sz n:Nat) (f:Nat->List AV) (v:Value) (g:Nat->List Value) (ho:w'.ownsRow 0 t sz v n ((List.range n).flatMap g)) (hl:∀ i,i < n->(g i).length=sz) (hr:∀ i,i < n->RelL E false (f i) (g i))
  (hv:∀ k,v.ownBlock=some k->row=some k ∨ w.heap.size<=k) :
  HeapOK C (E.setHdr id v) (H.put id (some (.vec t sz n f))) w':=by
 have le:=Env.le_setHdr (v:=v) h1 h2
 refine h.step id _ le rfl (fun j hj=>setHdr_other _ _ _ _ hj) hg (fun k hk=>⟨(hrow k hk).1,(hrow k hk).2.1,fun j _=>(hrow k hk).2.2 j⟩) ?_ ?_
 ·intro k hk j _ hHj e
  rw [setHdr_blk] at hk
  rcases hv k hk with hr' | hlt
  ·exact (hrow k hr').2.2 j hHj e
  ·cases e':H j with
   | none=>exact hHj e'
   | some ob=>exact absurd (OwnOB.blk_lt h.mem (h.own j ob e') e) (by omega)
 ·refine ⟨v,g,setHdr_self _ _ _,ho,hl,fun i hi=>(hr i hi).mono le,setHdr_blk _ _ _,fun k hk => ?_⟩
  rcases hv k hk with hr' | hlt
  ·exact ⟨(hrow k hr').1,(hrow k hr').2.1⟩
  ·refine ⟨C.hA k (Nat.le_trans h.size hlt),?_⟩
   show E.M k=none
   cases e':E.M k with
   | none=>rfl
   | some o=>exact absurd (Array.getElem?_eq_some_iff.1 (h.mem _ _ e')).1 (by omega)
theorem HeapOK.setVec {C:Ctx} {E:Env} {H:Heap} {w w':World} (h:HeapOK C E H w) (id k:Nat) (hH:H id ≠ none) (hk:E.blk id=some k) (ha:C.avail k) (hM:E.M k=none) (hg:w.grownBy w' (some k))
  (ob:OB) (hob:OwnOB C E w' id ob):HeapOK C E (H.put id (some ob)) w':=by
 refine h.step id _ (Env.le.refl E) rfl (fun _ _=>rfl) hg ?_ ?_ hob
 ·intro k' hk'
  cases hk'
  exact ⟨ha,hM,fun j hj hHj e=>h.sep j id k hj hHj hH e hk⟩
 ·intro k' hk' j hj hHj e
  exact h.sep j id k' hj hHj hH e hk'
def Env.freeze (E:Env) (k:Nat) (o:Obj):Env:={ E with M:=fun b=>if b=k then some o else E.M b }
theorem Env.le_freeze {E:Env} {k:Nat} {o:Obj} (h:E.M k=none):E.le (E.freeze k o) where
 M:=fun b o' e=>by
  show (if b=k then some o else E.M b)=some o'
  by_cases e':b=k
  ·subst e'; rw [h] at e; cases e
  ·rw [if_neg e']; exact e
 blk:=fun _ _ e=>e
 hdr:=fun _ _ e=>e
 fns:=rfl
theorem HeapOK.freeze {C:Ctx} {E:Env} {H:Heap} {w:World} (h:HeapOK C E H w) (id k:Nat) (o:Obj) (hH:H id ≠ none) (hk:E.blk id=some k) (ha:C.avail k) (hM:E.M k=none) (hw:w.heap[k]? = some o) :
  HeapOK C (E.freeze k o) (H.put id none) w:=by
 have le:=Env.le_freeze (o:=o) hM
 refine ⟨h.os,h.tape,h.output,h.size,h.pres,?_,h.le.trans le,?_,?_,?_⟩
 ·intro b o' hb
  replace hb:(if b=k then some o else E.M b)=some o':=hb
  by_cases e:b=k
  ·subst e; rw [if_pos rfl] at hb; cases hb; exact hw
  ·rw [if_neg e] at hb; exact h.mem b o' hb
 ·intro b o' hb
  replace hb:(if b=k then some o else E.M b)=some o':=hb
  by_cases e:b=k
  ·subst e; exact .inr ha
  ·rw [if_neg e] at hb; exact h.ext b o' hb
 ·intro i ob hi
  unfold Heap.put at hi
  split at hi
  ·cases hi
  ·rename_i hne
   refine (h.own i ob hi).kept (w:=w) (w':=w) (row:=none) ⟨rfl,rfl,rfl,Nat.le_refl _,fun _ _ _=>rfl⟩ le rfl ?_ (fun k hk=>by cases hk)
   intro k' hk' hb
   show (if k'=k then some o else E.M k')=none
   have hkk:k' ≠ k:=fun e=>h.sep i id k hne (by rw [hi]; simp) hH (by rw [← e]; exact hb) hk
   rw [if_neg hkk]
   exact hk'
 ·intro i j k' hij hi hj
  unfold Heap.put at hi hj
  split at hi
  ·exact absurd rfl hi
  ·split at hj
   ·exact absurd rfl hj
   ·exact h.sep i j k' hij hi hj
theorem frozen_self (E:Env) (k:Nat) (o:Obj):(E.freeze k o).M k=some o:=if_pos rfl
end Go.Ab
namespace Go.Ab
open Go Go.RowKit
inductive TK where
 | int (k:IntKind)
 | bool
 | slice (e:TypeId)
 | struct (fs:List (TypeId × Nat))
 | array (n:Nat) (e:TypeId)
 | ptr (e:TypeId)
 | mp (k e:TypeId) (q:IntKind)
 | func
 | other
structure TI where
 k:TK
 size:Nat
 bytes:Nat
 za:List AV
 flat:Bool:=false
def TK.isAgg:TK->Bool
 | .struct _ | .array _ _=>true
 | _=>false
def TK.fits (P:Program) (t:TypeId):TK->Prop
 | .int k=>P.underlying t=some (.int k)
 | .bool=>P.underlying t=some .bool
 | .slice e=>P.underlying t=some (.slice e)
 | .struct fs => ∃ gs,P.underlying t=some (.struct gs)/\gs.toList.map (fun f=>(f.type,f.offset))=fs
 | .array n e=>P.underlying t=some (.array n e)
 | .ptr e=>P.underlying t=some (.pointer e)
 | .mp k e q=>P.underlying t=some (.map k e)/\P.underlying k=some (.int .i64)/\P.underlying e=some (.int q) /\ ∀ w,(zeroValue e).run P w = .ok (.int q 0) w
 | .func => ∃ a b c,P.underlying t=some (.func a b c)
 | .other => ∃ d,P.underlying t=some d/\(∀ fs,d ≠ .struct fs)/\(∀ n e,d ≠ .array n e)
def FlatEq (P:Program) (t:TypeId) (n:Nat):Prop :=
 P.eqGuardType P.depth t=false /\ ∀ (w:World) (a b:List Int),a.length=n->b.length=n →
  (Op.equalIn 10000 t (.agg (a.map (Value.int .i64)).toArray) (.agg (b.map (Value.int .i64)).toArray)).run P w = .ok (decide (a=b)) w
structure TOK (P:Program) (t:TypeId) (ti:TI):Prop where
 info:∃ i z,P.info? t=some i/\i.size=ti.size/\i.bytes=ti.bytes/\i.zero=some z/\z.cells.size=ti.size/\(∀ E o,RelL E o ti.za z.cells.toList)
 und:ti.k.fits P t
 one:ti.k.isAgg=false->ti.size=1
 eq:ti.flat=true->FlatEq P t ti.size
abbrev Tab:=TypeId->Option TI
def Tab.ok (P:Program) (T:Tab):Prop := ∀ t ti,T t=some ti->TOK P t ti
theorem TOK.sizeOf {P:Program} {t:TypeId} {ti:TI} (h:TOK P t ti) (w:World):(sizeOf t).run P w = .ok ti.size w:=by
 obtain ⟨i,z,hi,hs,_⟩:=h.info
 simp [Go.sizeOf,typeInfo,hi,hs]
theorem TOK.isAgg {P:Program} {t:TypeId} {ti:TI} (h:TOK P t ti) (w:World):(isAgg t).run P w = .ok ti.k.isAgg w:=by
 have hu:=h.und
 cases hk:ti.k <;> rw [hk] at hu <;> simp only [TK.fits] at hu
 all_goals first
  | (simp [Go.isAgg,run_underlying hu,TK.isAgg]; done)
  | (obtain ⟨_,hu,_⟩:=hu; simp [Go.isAgg,run_underlying hu,TK.isAgg]; done)
  | (obtain ⟨hu,_,_⟩:=hu; simp [Go.isAgg,run_underlying hu,TK.isAgg]; done)
  | (obtain ⟨_,_,_,hu⟩:=hu; simp [Go.isAgg,run_underlying hu,TK.isAgg]; done)
  | (obtain ⟨d,hu,h1,h2⟩:=hu; cases d <;> first | exact absurd rfl (h1 _) | exact absurd rfl (h2 _ _) | simp [Go.isAgg,run_underlying hu,TK.isAgg])
def cw:AV->Nat
 | .arr sz n _=>n * sz
 | _=>1
def dropC:List AV->Nat->Option (List AV)
 | cs,0=>some cs
 | [],_ + 1=>none
 | c :: r,k + 1=>if cw c<=k + 1 then dropC r (k + 1 - cw c) else none
def takeC:List AV->Nat->Option (List AV)
 | _,0=>some []
 | [],_ + 1=>none
 | c :: r,k + 1=>if cw c<=k + 1 then (takeC r (k + 1 - cw c)).map (c :: ·) else none
theorem RelL.cons_split {E:Env} {o:Bool} {c:AV} {cs:List AV} {us:List Value} (h:RelL E o (c :: cs) us) :
  ∃ hd tl,us=hd ++ tl/\hd.length=cw c/\RelL E o [c] hd/\RelL E o cs tl:=by
 cases h with
 | cons h h1 hs =>
  rename_i u us
  refine ⟨[u],us,rfl,?_,.cons h h1 .nil,hs⟩
  cases c <;> first | rfl | (cases h)
 | arr g hg h hs =>
  rename_i sz n f us
  exact ⟨_,us,rfl,flat_length g sz n hg,by simpa using RelL.arr g hg h RelL.nil,hs⟩
theorem RelL.append {E:Env} {o:Bool}:∀ {cs ds:List AV} {us vs:List Value},RelL E o cs us->RelL E o ds vs->RelL E o (cs ++ ds) (us ++ vs):=by
 intro cs
 induction cs with
 | nil=>intro ds us vs h k; cases h; exact k
 | cons c cs ih =>
  intro ds us vs h k
  cases h with
  | cons h h1 hs=>exact .cons h h1 (ih hs k)
  | arr g hg h hs=>rw [List.append_assoc]; exact .arr g hg h (ih hs k)
theorem dropC_rel {E:Env} {o:Bool}:∀ {cs:List AV} {k:Nat} {cs':List AV} {us:List Value},dropC cs k=some cs'->RelL E o cs us->RelL E o cs' (us.drop k)/\k<=us.length:=by
 intro cs
 induction cs with
 | nil =>
  intro k cs' us h r
  cases k with
  | zero=>simp only [dropC,Option.some.injEq] at h; subst h; exact ⟨r,Nat.zero_le _⟩
  | succ k=>simp [dropC] at h
 | cons c cs ih =>
  intro k cs' us h r
  cases k with
  | zero=>simp only [dropC,Option.some.injEq] at h; subst h; exact ⟨r,Nat.zero_le _⟩
  | succ k =>
   simp only [dropC] at h
   split at h
   ·rename_i hle
    obtain ⟨hd,tl,rfl,hl,_,ht⟩:=r.cons_split
    obtain ⟨h1,h2⟩:=ih h ht
    refine ⟨?_,by rw [List.length_append]; omega⟩
    rw [List.drop_append,List.drop_of_length_le (by omega),hl]
    exact h1
   ·cases h
theorem takeC_rel {E:Env} {o:Bool}:∀ {cs:List AV} {k:Nat} {cs':List AV} {us:List Value},takeC cs k=some cs'->RelL E o cs us->RelL E o cs' (us.take k)/\k<=us.length:=by
 intro cs
 induction cs with
 | nil =>
  intro k cs' us h r
  cases k with
  | zero=>simp only [takeC,Option.some.injEq] at h; subst h; exact ⟨.nil,Nat.zero_le _⟩
  | succ k=>simp [takeC] at h
 | cons c cs ih =>
  intro k cs' us h r
  cases k with
  | zero=>simp only [takeC,Option.some.injEq] at h; subst h; exact ⟨.nil,Nat.zero_le _⟩
  | succ k =>
   simp only [takeC] at h
   split at h
   ·rename_i hle
    cases e:takeC cs (k + 1 - cw c) with
    | none=>rw [e] at h; cases h
    | some cs2 =>
     rw [e] at h
     simp only [Option.map_some,Option.some.injEq] at h
     subst h
     obtain ⟨hd,tl,rfl,hl,hh,ht⟩:=r.cons_split
     obtain ⟨h1,h2⟩:=ih e ht
     refine ⟨?_,by rw [List.length_append]; omega⟩
     rw [List.take_append,List.take_of_length_le (by omega),hl]
     exact RelL.append hh h1
   ·cases h
def nav:List AV->List PS->Option (List AV × Prop)
 | cs,[]=>some (cs,True)
 | cs,.fld k :: p=>(dropC cs k).bind fun cs'=>nav cs' p
 | .arr sz n f :: _,.idx i sz' :: p=>if sz=sz' then (nav (f i) p).map fun r=>(r.1,i < n/\r.2) else none
 | _,.idx _ _ :: _=>none
theorem RelL.of_false {E:Env} {o:Bool} {cs:List AV} {us:List Value} (h:RelL E false cs us):RelL E o cs us:=by
 cases o with
 | false=>exact h
 | true=>exact h.up
theorem flat_get (g:Nat->List Value) (sz:Nat):∀ n,(∀ i,i < n->(g i).length=sz) -> ∀ i k,i < n->k < sz->((List.range n).flatMap g)[i * sz + k]? = (g i)[k]? := by
 intro n
 induction n with
 | zero=>intro _ i k hi; omega
 | succ n ih =>
  intro h i k hi hk
  have hl:=flat_length g sz n (fun i hi=>h i (by omega))
  rw [List.range_succ,List.flatMap_append]
  by_cases e:i < n
  ·have hb:i * sz + k < n * sz:=by
    have:(i + 1) * sz<=n * sz:=Nat.mul_le_mul_right _ e
    rw [Nat.add_mul] at this; omega
   rw [List.getElem?_append_left (by rw [hl]; exact hb)]
   exact ih (fun i hi=>h i (by omega)) i k e hk
  ·have:i=n:=by omega
   subst this
   rw [List.getElem?_append_right (by rw [hl]; omega),hl]
   simp
theorem nav_rel {E:Env} {o:Bool}:∀ {p:List PS} {cs:List AV} {cs':List AV} {q:Prop} {us:List Value},nav cs p=some (cs',q)->q->RelL E o cs us →
  ∃ us',RelL E o cs' us' /\ ∀ k,k < us'.length->us[poff p + k]? = us'[k]? := by
 intro p
 induction p with
 | nil =>
  intro cs cs' q us h _ r
  simp only [nav,Option.some.injEq,Prod.mk.injEq] at h
  obtain ⟨rfl,_⟩:=h
  exact ⟨us,r,fun k _=>by simp [poff]⟩
 | cons s p ih =>
  intro cs cs' q us h hq r
  cases s with
  | fld j =>
   simp only [nav] at h
   cases e:dropC cs j with
   | none=>rw [e] at h; cases h
   | some cs2 =>
    rw [e] at h
    obtain ⟨h1,h2⟩:=dropC_rel e r
    obtain ⟨us',h3,h4⟩:=ih (by simpa using h) hq h1
    refine ⟨us',h3,fun k hk => ?_⟩
    rw [← h4 k hk,List.getElem?_drop]
    simp [poff,Nat.add_assoc]
  | idx i sz' =>
   cases cs with
   | nil=>simp [nav] at h
   | cons c cs =>
    cases c <;> simp only [nav] at h <;> try (cases h; done)
    rename_i sz n f
    split at h
    ·rename_i hsz
     subst hsz
     cases e:nav (f i) p with
     | none=>rw [e] at h; cases h
     | some x =>
      rw [e] at h
      simp only [Option.map_some,Option.some.injEq,Prod.mk.injEq] at h
      obtain ⟨rfl,rfl⟩:=h
      cases r with
      | cons h _ _=>cases h
      | arr g hg h hs =>
       rename_i us0
       obtain ⟨us',h3,h4⟩:=ih (cs':=x.1) (q:=x.2) e hq.2 (RelL.of_false (o:=o) (h i hq.1))
       refine ⟨us',h3,fun k hk => ?_⟩
       have hb:poff p + k < (g i).length:=by
        rcases Nat.lt_or_ge (poff p + k) (g i).length with hlt | hge
        ·exact hlt
        ·have:=h4 k hk
         rw [List.getElem?_eq_none hge,List.getElem?_eq_getElem hk] at this
         cases this
       rw [hg i hq.1] at hb
       rw [← h4 k hk,← flat_get g sz n hg i (poff p + k) hq.1 hb]
       have hb2:i * sz + (poff p + k) < n * sz:=by
        have:(i + 1) * sz<=n * sz:=Nat.mul_le_mul_right _ hq.1
        rw [Nat.add_mul] at this; omega
       rw [List.getElem?_append_left (by rw [flat_length g sz n hg]; simp only [poff]; omega)]
       simp only [poff,Nat.add_assoc]
    ·cases h
def ovw (us:List Value) (k:Nat) (vs:List Value):List Value:=us.take k ++ vs ++ us.drop (k + vs.length)
theorem ovw_length (us:List Value) (k:Nat) (vs:List Value) (h:k + vs.length<=us.length):(ovw us k vs).length=us.length:=by
 simp only [ovw,List.length_append,List.length_take,List.length_drop]; omega
theorem ovw_append_right (as bs:List Value) (k:Nat) (vs:List Value):ovw (as ++ bs) (as.length + k) vs=as ++ ovw bs k vs:=by
 simp only [ovw,List.append_assoc]
 rw [List.take_append,List.take_of_length_le (by omega),List.drop_append,List.drop_of_length_le (l:=as) (by omega)]
 simp only [List.nil_append,List.append_assoc]
 congr 2
 ·congr 1; omega
 ·congr 2; omega
theorem ovw_append_left (as bs:List Value) (k:Nat) (vs:List Value) (h:k + vs.length<=as.length):ovw (as ++ bs) k vs=ovw as k vs ++ bs:=by
 simp only [ovw,List.append_assoc]
 rw [List.take_append_of_le_length (by omega),List.drop_append_of_le_length h]
def setP:List AV->List PS->List AV->Option (List AV × Prop × Bool)
 | cs,[],new=>(dropC cs (clen new)).map fun r=>(new ++ r,True,false)
 | cs,.fld k :: p,new=>(takeC cs k).bind fun pre=>(dropC cs k).bind fun post=>(setP post p new).map fun r=>(pre ++ r.1,r.2)
 | .arr sz n f :: r,.idx i sz' :: p,new =>
  if sz=sz' then (setP (f i) p new).map fun x=>(.arr sz n (fun j=>if j=i then x.1 else f j) :: r,(i < n/\x.2.1),true) else none
 | _,.idx _ _ :: _,_=>none
theorem setP_rel {E:Env} {o:Bool} {new:List AV} {vs:List Value} (hn:RelL E o new vs):∀ {p:List PS} {cs:List AV} {cs':List AV} {q:Prop} {d:Bool} {us:List Value},
  setP cs p new=some (cs',q,d)->q->(d=true->RelL E false new vs)->RelL E o cs us->RelL E o cs' (ovw us (poff p) vs)/\poff p + vs.length<=us.length:=by
 intro p
 induction p generalizing o with
 | nil =>
  intro cs cs' q d us h _ _ r
  simp only [setP] at h
  cases e:dropC cs (clen new) with
  | none=>rw [e] at h; cases h
  | some cs2 =>
   rw [e] at h
   simp only [Option.map_some,Option.some.injEq,Prod.mk.injEq] at h
   obtain ⟨rfl,_⟩:=h
   obtain ⟨h1,h2⟩:=dropC_rel e r
   rw [← hn.length] at h1 h2
   refine ⟨?_,by simpa [poff] using h2⟩
   simp only [ovw,poff,List.take_zero,List.nil_append,Nat.zero_add]
   exact RelL.append hn h1
 | cons s p ih =>
  intro cs cs' q d us h hq hd r
  cases s with
  | fld j =>
   simp only [setP] at h
   cases e:takeC cs j with
   | none=>rw [e] at h; cases h
   | some pre =>
    cases e2:dropC cs j with
    | none=>rw [e,e2] at h; cases h
    | some post =>
     rw [e,e2] at h
     simp only [Option.bind_some] at h
     cases e3:setP post p new with
     | none=>rw [e3] at h; cases h
     | some x =>
      rw [e3] at h
      simp only [Option.map_some,Option.some.injEq,Prod.mk.injEq] at h
      obtain ⟨rfl,hx⟩:=h
      obtain ⟨h1,h1'⟩:=takeC_rel e r
      obtain ⟨h2,_⟩:=dropC_rel e2 r
      have hx1:x.2.1=q:=by rw [hx]
      have hx2:x.2.2=d:=by rw [hx]
      obtain ⟨h3,h4⟩:=ih hn (cs':=x.1) (q:=x.2.1) (d:=x.2.2) e3 (by rw [hx1]; exact hq) (fun e=>hd (by rw [← hx2]; exact e)) h2
      rw [List.length_drop] at h4
      refine ⟨?_,by simp only [poff]; omega⟩
      have:=RelL.append h1 h3
      have hov:us.take j ++ ovw (us.drop j) (poff p) vs=ovw us (j + poff p) vs:=by
       have:=ovw_append_right (us.take j) (us.drop j) (poff p) vs
       rw [List.take_append_drop,List.length_take,Nat.min_eq_left h1'] at this
       exact this.symm
      rw [hov] at this
      exact this
  | idx i sz' =>
   cases cs with
   | nil=>simp [setP] at h
   | cons c cs =>
    cases c <;> simp only [setP] at h <;> try (cases h; done)
    rename_i sz n f
    split at h
    ·rename_i hsz
     subst hsz
     cases e:setP (f i) p new with
     | none=>rw [e] at h; cases h
     | some x =>
      rw [e] at h
      simp only [Option.map_some,Option.some.injEq,Prod.mk.injEq] at h
      obtain ⟨rfl,rfl,rfl⟩:=h
      cases r with
      | cons h _ _=>cases h
      | arr g hg h hs =>
       rename_i us0
       have hnf:=hd rfl
       obtain ⟨h3,h4⟩:=ih (o:=false) hnf (cs':=x.1) (q:=x.2.1) (d:=x.2.2) e hq.2 (fun _=>hnf) (h i hq.1)
       rw [hg i hq.1] at h4
       have hin:i * sz + sz<=n * sz:=by
        have:(i + 1) * sz<=n * sz:=Nat.mul_le_mul_right _ hq.1
        rw [Nat.add_mul] at this; omega
       have hfl:=flat_length g sz n hg
       refine ⟨?_,by rw [List.length_append,hfl]; simp only [poff]; omega⟩
       let g':Nat->List Value:=fun j=>if j=i then ovw (g i) (poff p) vs else g j
       have hg':∀ j,j < n->(g' j).length=sz:=by
        intro j hj
        show (if j=i then _ else _:List Value).length=sz
        by_cases ej:j=i
        ·rw [if_pos ej,ovw_length _ _ _ (by rw [hg i hq.1]; exact h4),hg i hq.1]
        ·rw [if_neg ej]; exact hg j hj
       have hr':∀ j,j < n->RelL E false (if j=i then x.1 else f j) (g' j):=by
        intro j hj
        show RelL E false _ (if j=i then _ else _)
        by_cases ej:j=i
        ·rw [if_pos ej,if_pos ej]; exact h3
        ·rw [if_neg ej,if_neg ej]; exact h j hj
       have:=RelL.arr (o:=o) g' hg' hr' hs
       have hov:ovw ((List.range n).flatMap g ++ us0) (i * sz + poff p) vs=(List.range n).flatMap g' ++ us0:=by
        rw [ovw_append_left _ _ _ _ (by rw [hfl]; omega)]
        congr 1
        apply List.ext_getElem?
        intro m
        have hl1:=ovw_length ((List.range n).flatMap g) (i * sz + poff p) vs (by rw [hfl]; omega)
        have hl2:=flat_length g' sz n hg'
        rcases Nat.lt_or_ge m (n * sz) with hm | hm
        ·have hsz:0 < sz:=by
          rcases Nat.eq_zero_or_pos sz with h0 | h0
          ·rw [h0] at hm; omega
          ·exact h0
         have hj:m / sz < n:=by rw [Nat.div_lt_iff_lt_mul hsz]; exact hm
         have hk:m % sz < sz:=Nat.mod_lt _ hsz
         have hmk:m=m / sz * sz + m % sz:=by rw [Nat.mul_comm]; exact (Nat.div_add_mod m sz).symm
         have r1:=flat_get g' sz n hg' (m / sz) (m % sz) hj hk
         rw [← hmk] at r1
         rw [r1]
         have r2:=flat_get g sz n hg (m / sz) (m % sz) hj hk
         rw [← hmk] at r2
         have hget:∀ (us:List Value) (k m:Nat),k + vs.length<=us.length->(ovw us k vs)[m]? = if m < k then us[m]? else if m < k + vs.length then vs[m - k]? else us[m]? := by
          intro us k m hle
          unfold ovw
          have ht:(us.take k).length=k:=by rw [List.length_take]; omega
          by_cases c1:m < k
          ·rw [if_pos c1,List.append_assoc,List.getElem?_append_left (by omega),List.getElem?_take,if_pos c1]
          ·rw [if_neg c1]
           by_cases c2:m < k + vs.length
           ·rw [if_pos c2,List.append_assoc,List.getElem?_append_right (by omega),ht,List.getElem?_append_left (by omega)]
           ·rw [if_neg c2,List.getElem?_append_right (by rw [List.length_append,ht]; omega),List.length_append,ht,List.getElem?_drop]
            congr 1; omega
         rw [hget _ _ _ (by rw [hfl]; omega),r2]
         show _=(if m / sz=i then ovw (g i) (poff p) vs else g (m / sz))[m % sz]?
         by_cases ej:m / sz=i
         ·rw [if_pos ej,hget _ _ _ (by rw [hg i hq.1]; exact h4),ej]
          have hmi:m=i * sz + m % sz:=by rw [← ej]; exact hmk
          by_cases c1:m % sz < poff p
          ·rw [if_pos (by omega),if_pos c1]
          ·rw [if_neg (by omega),if_neg c1]
           by_cases c2:m % sz < poff p + vs.length
           ·rw [if_pos (by omega),if_pos c2]; congr 1; omega
           ·rw [if_neg (by omega),if_neg c2]
         ·rw [if_neg ej]
          rcases Nat.lt_or_gt_of_ne ej with hlt | hgt
          ·have:(m / sz + 1) * sz<=i * sz:=Nat.mul_le_mul_right _ hlt
           rw [Nat.add_mul] at this
           rw [if_pos (by omega)]
          ·have:(i + 1) * sz<=m / sz * sz:=Nat.mul_le_mul_right _ hgt
           rw [Nat.add_mul] at this
           rw [if_neg (by omega),if_neg (by omega)]
        ·rw [List.getElem?_eq_none (by rw [hl1,hfl]; exact hm),List.getElem?_eq_none (by rw [hl2]; exact hm)]
       show RelL E o _ (ovw _ (i * sz + poff p) vs)
       rw [hov]
       exact this
    ·cases h
theorem addr_add (b o k:Nat):(⟨b,o,none⟩:Addr).add k=⟨b,o + k,none⟩:=by unfold Addr.add; split <;> simp_all
def mkVal (ti:TI) (us:List Value):Value:=if ti.k.isAgg then .agg us.toArray else us.getD 0 undef
theorem run_loadAt {P:Program} {t:TypeId} {ti:TI} (h:TOK P t ti) (w:World) (b o:Nat) (us:List Value) (hl:us.length=ti.size) (hc:∀ k,k < us.length->w.cell? ⟨b,o + k,none⟩=us[k]?) :
  (Instr.loadAt t (.pointer (some ⟨b,o,none⟩))).run P w = .ok (mkVal ti us) w:=by
 have hcs:∀ j v,us[j]? = some v->w.cell? ((⟨b,o,none⟩:Addr).add j)=some v:=by
  intro j v hj
  have hlt:j < us.length:=(List.getElem?_eq_some_iff.1 hj).1
  rw [addr_add,hc j hlt,hj]
 unfold Instr.loadAt Instr.sureAddr loadVar mkVal
 simp only [Sem.run_bind,Sem.run_pure,Result.andThen_ok,h.isAgg w]
 cases ha:ti.k.isAgg with
 | true =>
  have hlc:=run_loadCells_list (P:=P) (w:=w) (⟨b,o,none⟩:Addr) us hcs
  rw [hl] at hlc
  simp [h.sizeOf w,hlc]
 | false =>
  have h1:us.length=1:=by rw [hl]; exact h.one ha
  have hc0:=hc 0 (by omega)
  simp only [Nat.add_zero,List.getElem?_eq_getElem (show 0 < us.length by omega)] at hc0
  simp [hc0,List.getD,List.getElem?_eq_getElem (show 0 < us.length by omega)]
theorem grownBy_setRow (w:World) (k:Nat) (cs:Array Value):w.grownBy (w.setRow k cs) (some k) :=
 ⟨rfl,rfl,rfl,by simp,fun j _ hj=>setRow_other w k j cs (fun e=>hj (by simp [e]))⟩
theorem run_storeAt {P:Program} {t:TypeId} {ti:TI} (h:TOK P t ti) (w:World) (b o:Nat) (ty:TypeId) (us vs:List Value) (v:Value) (hv:v.cells.toList=vs) (hl:vs.length=ti.size) (hw:w.heap[b]? = some (.cells us.toArray ty (0,0)))
  (hb:o + vs.length<=us.length) (h1:∀ u ∈ vs,u.oneCell'=true) :
  (Instr.storeAt t (.pointer (some ⟨b,o,none⟩)) v).run P w = .ok () (w.setRow b (ovw us o vs).toArray):=by
 unfold Instr.storeAt Instr.sureAddr storeVar
 have hsz:v.cells.size=ti.size:=by rw [← hl,← hv]; simp
 have hst:=run_storeCells_at P b o ty vs 0 us.toArray w hw (by simpa using hb) h1
 simp only [Sem.run_bind,Sem.run_pure,Result.andThen_ok,h.sizeOf w,hsz,ne_eq,not_true_eq_false,if_false,hv]
 simpa [ovw] using hst
end Go.Ab
namespace Go.Ab
open Go Go.RowKit
structure Eff where
 obl:Prop
 res:AV
 upd:List (Nat × Option OB)
def Heap.upds (H:Heap):List (Nat × Option OB)->Heap
 | []=>H
 | x :: r=>Heap.upds (H.put x.1 x.2) r
def Good (C:Ctx) (E:Env) (H:Heap) (w:World) (a:Act) (o:Oper) (id:Nat) (eff:Eff):Prop :=
 eff.obl -> ∃ v w' E',((execOp a.eval o).run C.P w = .ok (.value v) w' ∨ ((execOp a.eval o).run C.P w = .ok .skip w'/\v=undef))/\E.le E'/\HeapOK C E' (H.upds eff.upd) w' ∧
  Rel E' true eff.res v/\(∀ j,(j < id ∨ id + 8<=j)->E'.blk j=E.blk j/\E'.hdr j=E.hdr j)
section
variable {C:Ctx} {E:Env} {H:Heap} {w:World} {a:Act} {o:Oper} {id:Nat} {T:Tab}
theorem Good.val (h:HeapOK C E H w) {q:Prop} {res:AV} (hr:q -> ∃ v,(execOp a.eval o).run C.P w = .ok (.value v) w/\Rel E true res v):Good C E H w a o id ⟨q,res,[]⟩ :=
 fun hq=>let ⟨v,h1,h2⟩:=hr hq; ⟨v,w,E,.inl h1,Env.le.refl E,h,h2,fun _ _=>⟨rfl,rfl⟩⟩
abbrev VEff:=Prop × AV
def Tab.kind (T:Tab) (t:TypeId):Option TK:=(T t).map TI.k
theorem Tab.kind_ok {P:Program} {T:Tab} (hT:Tab.ok P T) {t:TypeId} {k:TK} (h:T.kind t=some k):k.fits P t:=by
 unfold Tab.kind at h
 cases e:T t with
 | none=>rw [e] at h; cases h
 | some ti =>
  rw [e] at h
  simp only [Option.map_some,Option.some.injEq] at h
  subst h
  exact (hT t ti e).und
def inI (n:Int):Prop := -9223372036854775808<=n/\n<=9223372036854775807
def arI (op:BinOp) (a b:Int):Option VEff :=
 match op with
 | .add=>some (inI (a + b),.lit (.int .i64 (a + b)))
 | .sub=>some (inI (a - b),.lit (.int .i64 (a - b)))
 | .mul=>some (inI (a * b),.lit (.int .i64 (a * b)))
 | .quo=>some (0<=a/\0 < b/\a<=9223372036854775807,.lit (.int .i64 (a / b)))
 | .rem=>some (0<=a/\0 < b,.lit (.int .i64 (a % b)))
 | _=>none
def cmpI (op:BinOp) (a b:Int):Option AV :=
 match op with
 | .eql=>some (.lit (.bool (decide (a=b))))
 | .neq=>some (.lit (.bool (!decide (a=b))))
 | .lss=>some (.lit (.bool (decide (a < b))))
 | .leq=>some (.lit (.bool (decide (a<=b))))
 | .gtr=>some (.lit (.bool (decide (b < a))))
 | .geq=>some (.lit (.bool (decide (b<=a))))
 | _=>none
def eqC:List AV->List AV->Option Bool
 | [],[]=>some true
 | .lit (.int .i64 a) :: r,.lit (.int .i64 b) :: s=>(eqC r s).map (decide (a=b) && ·)
 | _,_=>none
def evBin (T:Tab) (op:BinOp) (t:TypeId) (x y:AV):Option VEff :=
 match x,y with
 | .lit (.int k a),.lit (.int k' b) =>
  if k=k' then
   match cmpI op a b with
   | some r=>some (True,r)
   | none=>if k = .i64 then arI op a b else none
  else none
 | .lit (.bool a),.lit (.bool b) =>
  match op,T.kind t with
  | .eql,some .bool=>some (True,.lit (.bool (a == b)))
  | .neq,some .bool=>some (True,.lit (.bool (!(a == b))))
  | _,_=>none
 | .agg xs,.agg ys =>
  match T t with
  | some ti =>
   if ti.flat=true/\xs.length=ti.size then
    match op,eqC xs ys with
    | .eql,some r=>some (True,.lit (.bool r))
    | .neq,some r=>some (True,.lit (.bool (!r)))
    | _,_=>none
   else none
  | none=>none
 | _,_=>none
theorem eqC_rel {o:Bool}:∀ {xs ys:List AV} {us vs:List Value} {r:Bool},eqC xs ys=some r->RelL E o xs us->RelL E o ys vs →
  ∃ a b:List Int,us=a.map (Value.int .i64)/\vs=b.map (Value.int .i64)/\a.length=xs.length/\b.length=xs.length/\r=decide (a=b):=by
 intro xs
 induction xs with
 | nil =>
  intro ys us vs r h hu hv
  cases ys with
  | nil=>cases hu; cases hv; cases h; exact ⟨[],[],rfl,rfl,rfl,rfl,by simp⟩
  | cons y ys=>simp [eqC] at h
 | cons x xs ih =>
  intro ys us vs r h hu hv
  cases ys with
  | nil=>unfold eqC at h; split at h <;> simp_all
  | cons y ys =>
   unfold eqC at h
   split at h
   ·rename_i e; cases e
   ·rename_i a _ b _ e1 e2
    cases e1; cases e2
    cases hu with
    | cons hx _ hu =>
    cases hv with
    | cons hy _ hv =>
    cases hx; cases hy
    cases he:eqC xs ys with
    | none=>rw [he] at h; cases h
    | some r' =>
     rw [he] at h
     cases h
     obtain ⟨as,bs,rfl,rfl,h1,h2,rfl⟩:=ih he hu hv
     refine ⟨a :: as,b :: bs,rfl,rfl,by simp [h1],by simp [h2],?_⟩
     by_cases e:a=b <;> by_cases e':as=bs <;> simp [e,e']
   ·cases h
def wr (n:Int):Int:=IntKind.i64.wrap n
def arW (op:BinOp) (x y:AV):Option AV :=
 match x,y with
 | .lit (.int .i64 a),.lit (.int .i64 b) =>
  match op with
  | .add=>some (.lit (.int .i64 (wr (a + b))))
  | .sub=>some (.lit (.int .i64 (wr (a - b))))
  | .mul=>some (.lit (.int .i64 (wr (a * b))))
  | _=>none
 | _,_=>none
theorem wrap_in (n:Int) (h:inI n):IntKind.i64.wrap n=n:=IntWalk.i64_in _ ⟨h.1,h.2⟩
theorem evBin_sound (hT:Tab.ok C.P T) (h:HeapOK C E H w) {op:BinOp} {t yt:TypeId} {x y:Operand} (ho:o.op = .binOp op t x y yt) {vx vy:AV} (hx:Rel E true vx (a.eval x)) (hy:Rel E true vy (a.eval y))
  {r:VEff} (he:evBin T op t vx vy=some r):Good C E H w a o id ⟨r.1,r.2,[]⟩:=by
 refine Good.val h fun hq => ?_
 unfold evBin at he
 split at he
 ·rename_i k n k' m
  have e1:a.eval x = .int k n:=by generalize a.eval x=u at hx; cases hx; rfl
  have e2:a.eval y = .int k' m:=by generalize a.eval y=u at hy; cases hy; rfl
  split at he
  ·rename_i hk
   subst hk
   split at he
   ·rename_i r' hc
    cases he
    have hrun:(execOp a.eval o).run C.P w=((binOp op t (.int k n) (.int k m)).run C.P w).andThen fun v w' => .ok (.value v) w':=by
     cases op <;> simp [execOp,ho,e1,e2,eqGuard,Result.andThen]
    cases op <;> simp only [cmpI,Option.some.injEq] at hc <;> try (cases hc; done)
    all_goals subst hc
    ·exact ⟨.bool (decide (n=m)),by rw [hrun]; simp [binOp,Op.intCmp]; rfl,.lit _⟩
    ·exact ⟨.bool (!decide (n=m)),by rw [hrun]; simp [binOp,Op.intCmp]; rfl,.lit _⟩
    ·exact ⟨.bool (decide (n < m)),by rw [hrun]; simp [binOp,Op.intCmp],.lit _⟩
    ·exact ⟨.bool (decide (n<=m)),by rw [hrun]; simp [binOp,Op.intCmp],.lit _⟩
    ·exact ⟨.bool (decide (m < n)),by rw [hrun]; simp [binOp,Op.intCmp],.lit _⟩
    ·exact ⟨.bool (decide (m<=n)),by rw [hrun]; simp [binOp,Op.intCmp],.lit _⟩
   ·rename_i hc
    split at he
    ·rename_i hk
     subst hk
     have hrun:(execOp a.eval o).run C.P w=((binOp op t (.int .i64 n) (.int .i64 m)).run C.P w).andThen fun v w' => .ok (.value v) w':=by
      cases op <;> simp [execOp,ho,e1,e2,eqGuard,Result.andThen]
     cases op <;> simp only [arI,Option.some.injEq] at he <;> try (cases he; done)
     all_goals subst he
     ·exact ⟨.int .i64 (n + m),by rw [hrun]; simp [binOp,Op.intArith,wrap_in _ hq],.lit _⟩
     ·exact ⟨.int .i64 (n - m),by rw [hrun]; simp [binOp,Op.intArith,wrap_in _ hq],.lit _⟩
     ·exact ⟨.int .i64 (n * m),by rw [hrun]; simp [binOp,Op.intArith,wrap_in _ hq],.lit _⟩
     ·obtain ⟨h1,h2,h3⟩:=hq
      have hne:¬ m=0:=by omega
      have hd:n.tdiv m=n / m:=Int.tdiv_eq_ediv_of_nonneg h1
      have hr:inI (n / m):=⟨by have:=Int.ediv_nonneg h1 (Int.le_of_lt h2); omega,by have:=Int.ediv_le_self m h1; omega⟩
      exact ⟨.int .i64 (n / m),by rw [hrun]; simp [binOp,Op.intDiv,hne,hd,wrap_in _ hr],.lit _⟩
     ·obtain ⟨h1,h2⟩:=hq
      have hne:¬ m=0:=by omega
      have hd:n.tmod m=n % m:=Int.tmod_eq_emod_of_nonneg h1
      exact ⟨.int .i64 (n % m),by rw [hrun]; simp [binOp,Op.intDiv,hne,hd],.lit _⟩
    ·cases he
  ·cases he
 ·rename_i p q
  have e1:a.eval x = .bool p:=by generalize a.eval x=u at hx; cases hx; rfl
  have e2:a.eval y = .bool q:=by generalize a.eval y=u at hy; cases hy; rfl
  split at he
  ·rename_i hk
   have hu:C.P.underlying t=some .bool:=Tab.kind_ok hT hk
   cases he
   refine ⟨.bool (p == q),?_,.lit _⟩
   have hb:binOp .eql t (.bool p) (.bool q)=(do pure (.bool (← Op.equal t (.bool p) (.bool q)))):=rfl
   have hg:eqGuard .eql t x y (.bool p) (.bool q)=pure ():=rfl
   simp only [execOp,ho,e1,e2,hb,hg,Sem.run_bind,Sem.run_pure,Result.andThen_ok,run_equal_bool w t p q hu]
  ·rename_i hk
   have hu:C.P.underlying t=some .bool:=Tab.kind_ok hT hk
   cases he
   refine ⟨.bool (!(p == q)),?_,.lit _⟩
   have hb:binOp .neq t (.bool p) (.bool q)=(do pure (.bool (!(← Op.equal t (.bool p) (.bool q))))):=rfl
   have hg:eqGuard .neq t x y (.bool p) (.bool q)=pure ():=rfl
   simp only [execOp,ho,e1,e2,hb,hg,Sem.run_bind,Sem.run_pure,Result.andThen_ok,run_equal_bool w t p q hu]
  ·cases he
 ·rename_i xs ys
  split at he
  ·rename_i ti hti
   split at he
   ·rename_i hc
    obtain ⟨hg,hE⟩:=(hT t ti hti).eq hc.1
    have key:∀ r,eqC xs ys=some r -> ∃ us vs,a.eval x = .agg us/\a.eval y = .agg vs/\(Op.equalIn 10000 t (.agg us) (.agg vs)).run C.P w = .ok r w:=by
     intro r hr
     generalize a.eval x=u at hx
     generalize a.eval y=v at hy
     cases hx with
     | agg hu =>
     cases hy with
     | agg hv =>
     obtain ⟨as,bs,rfl,rfl,h1,h2,rfl⟩:=eqC_rel hr hu hv
     exact ⟨_,_,rfl,rfl,hE w as bs (h1.trans hc.2) (h2.trans hc.2)⟩
    split at he
    ·rename_i r hr
     cases he
     obtain ⟨us,vs,e1,e2,h3⟩:=key r hr
     refine ⟨.bool r,?_,.lit _⟩
     simp only [execOp,ho,e1,e2,Sem.run_bind,run_eqGuard_agg w .eql t x y us vs hg,run_eql_struct,h3,Result.andThen_ok,Sem.run_pure]
    ·rename_i r hr
     cases he
     obtain ⟨us,vs,e1,e2,h3⟩:=key r hr
     refine ⟨.bool (!r),?_,.lit _⟩
     simp only [execOp,ho,e1,e2,Sem.run_bind,run_eqGuard_agg w .neq t x y us vs hg,run_neq_struct,h3,Result.andThen_ok,Sem.run_pure]
    ·cases he
   ·cases he
  ·cases he
 ·cases he
theorem arW_sound (h:HeapOK C E H w) {op:BinOp} {t yt:TypeId} {x y:Operand} (ho:o.op = .binOp op t x y yt) {vx vy:AV} (hx:Rel E true vx (a.eval x)) (hy:Rel E true vy (a.eval y))
  {r:AV} (he:arW op vx vy=some r):Good C E H w a o id ⟨True,r,[]⟩:=by
 refine Good.val h fun _ => ?_
 unfold arW at he
 split at he
 ·rename_i n m
  have e1:a.eval x = .int .i64 n:=by generalize a.eval x=u at hx; cases hx; rfl
  have e2:a.eval y = .int .i64 m:=by generalize a.eval y=u at hy; cases hy; rfl
  have hrun:(execOp a.eval o).run C.P w=((binOp op t (.int .i64 n) (.int .i64 m)).run C.P w).andThen fun v w' => .ok (.value v) w':=by
   cases op <;> simp [execOp,ho,e1,e2,eqGuard,Result.andThen]
  split at he
  ·cases he; exact ⟨.int .i64 (wr (n + m)),by rw [hrun]; simp [binOp,Op.intArith,wr],.lit _⟩
  ·cases he; exact ⟨.int .i64 (wr (n - m)),by rw [hrun]; simp [binOp,Op.intArith,wr],.lit _⟩
  ·cases he; exact ⟨.int .i64 (wr (n * m)),by rw [hrun]; simp [binOp,Op.intArith,wr],.lit _⟩
  ·cases he
 ·cases he
def evUn (op:UnOp) (x:AV):Option VEff :=
 match op,x with
 | .not,.lit (.bool b)=>some (True,.lit (.bool (!b)))
 | .neg,.lit (.int .i64 n)=>some (inI (0 - n),.lit (.int .i64 (0 - n)))
 | _,_=>none
theorem evUn_sound (h:HeapOK C E H w) {op:UnOp} {t:TypeId} {x:Operand} (ho:o.op = .unOp op t x) {vx:AV} (hx:Rel E true vx (a.eval x)) {r:VEff} (he:evUn op vx=some r):Good C E H w a o id ⟨r.1,r.2,[]⟩:=by
 refine Good.val h fun hq => ?_
 unfold evUn at he
 split at he
 ·rename_i b
  have e1:a.eval x = .bool b:=by generalize a.eval x=u at hx; cases hx; rfl
  cases he
  exact ⟨.bool (!b),by simp [execOp,ho,e1,Op.unary],.lit _⟩
 ·rename_i n
  have e1:a.eval x = .int .i64 n:=by generalize a.eval x=u at hx; cases hx; rfl
  cases he
  exact ⟨.int .i64 (0 - n),by simp only [execOp,ho,e1,Op.unary,Op.intArith,wrap_in _ hq]; simp,.lit _⟩
 ·cases he
theorem evMove_sound (h:HeapOK C E H w) {x:Operand} (ho:o.op = .move x ∨ o.op = .assign x) {vx:AV} (hx:Rel E true vx (a.eval x)):Good C E H w a o id ⟨True,vx,[]⟩ :=
 Good.val h fun _=>⟨a.eval x,by rcases ho with ho | ho <;> simp [execOp,ho],hx⟩
def pickB:AV->Option (Prop × Bool)
 | .lit (.bool b)=>some (True,b)
 | .cnd g (.lit (.bool b))=>some (g=true,b)
 | _=>none
def evPick (c x y:AV):Option VEff :=
 match c,pickB x,pickB y with
 | .lit (.bool b),some (p,u),some (q,v)=>some ((b=true->p)/\(b=false->q),.lit (.bool (bif b then u else v)))
 | _,_,_=>none
theorem pickB_rel {v:AV} {p:Prop} {b:Bool} (h:pickB v=some (p,b)) (hp:p) {u:Value} (hr:Rel E true v u):u = .bool b:=by
 unfold pickB at h
 split at h
 ·cases h; cases hr; rfl
 ·cases h
  cases hr with
  | cnd h1 h2=>have:=h1 hp; cases this; rfl
 ·cases h
theorem evPick_sound (h:HeapOK C E H w) {c x y:Operand} (ho:o.op = .pick c x y) {vc vx vy:AV} (hc:Rel E true vc (a.eval c)) (hx:Rel E true vx (a.eval x)) (hy:Rel E true vy (a.eval y))
  {r:VEff} (he:evPick vc vx vy=some r):Good C E H w a o id ⟨r.1,r.2,[]⟩:=by
 refine Good.val h fun hq => ?_
 unfold evPick at he
 split at he
 ·rename_i b p u q v e1 e2
  cases he
  have ec:a.eval c = .bool b:=by generalize a.eval c=z at hc; cases hc; rfl
  cases b with
  | true=>exact ⟨.bool u,by simp [execOp,ho,ec,asBool,pickB_rel e1 (hq.1 rfl) hx],.lit _⟩
  | false=>exact ⟨.bool v,by simp [execOp,ho,ec,asBool,pickB_rel e2 (hq.2 rfl) hy],.lit _⟩
 ·cases he
def evExtract (x:AV) (i:Nat):Option VEff :=
 match x with
 | .tup cs=>(cs[i]?).map fun v=>(True,v)
 | _=>none
theorem evExtract_sound (h:HeapOK C E H w) {x:Operand} {i:Nat} (ho:o.op = .extract x i) {vx:AV} (hx:Rel E true vx (a.eval x)) {r:VEff} (he:evExtract vx i=some r):Good C E H w a o id ⟨r.1,r.2,[]⟩:=by
 refine Good.val h fun hq => ?_
 unfold evExtract at he
 split at he
 ·rename_i cs
  cases e:cs[i]? with
  | none=>rw [e] at he; cases he
  | some v =>
   rw [e] at he
   cases he
   generalize hz:a.eval x=z at hx
   cases hx with
   | tup hl hk =>
    rename_i us
    have hlt:i < cs.length:=(List.getElem?_eq_some_iff.1 e).1
    have h1:us[i]? = some us[i]:=List.getElem?_eq_getElem (by omega)
    have h2:=hk i
    rw [List.getD_eq_getElem?_getD,e,List.getD_eq_getElem?_getD,h1] at h2
    refine ⟨us[i],?_,h2⟩
    simp [execOp,ho,hz,Instr.extract,h1]
 ·cases he
def evField (T:Tab) (t:TypeId) (i:Nat) (x:AV):Option VEff :=
 match T.kind t with
 | some (.struct fs) =>
  match fs[i]? with
  | some (ft,off) =>
   match T ft with
   | some fi =>
    if fi.size=0 then none else
    match x with
    | .ptr b p=>some (True,.ptr b (p ++ [.fld off]))
    | .vp b j sz p=>some (True,.vp b j sz (p ++ [.fld off]))
    | .rp cs=>(dropC cs off).map fun cs'=>(True,.rp cs')
    | .opt g cs=>(dropC cs off).map fun cs'=>(g=true,.rp cs')
    | _=>none
   | none=>none
  | none=>none
 | _=>none
theorem poff_append (p q:List PS):poff (p ++ q)=poff p + poff q:=by
 induction p with
 | nil=>simp [poff]
 | cons s p ih=>cases s <;> simp only [List.cons_append,poff,ih] <;> omega
theorem run_fieldAt {P:Program} {t ft:TypeId} {fs:List (TypeId × Nat)} {off i:Nat} {fi:TI} (hu:∃ gs,P.underlying t=some (.struct gs)/\gs.toList.map (fun f=>(f.type,f.offset))=fs) (hf:fs[i]? = some (ft,off))
  (hfi:TOK P ft fi) (hz:fi.size ≠ 0) (w:World) (b k:Nat):(Instr.fieldAt t (.pointer (some ⟨b,k,none⟩)) i).run P w = .ok (.pointer (some ⟨b,k + off,none⟩)) w:=by
 obtain ⟨gs,hu,hg⟩:=hu
 rw [← hg,List.getElem?_map] at hf
 cases e:gs.toList[i]? with
 | none=>rw [e] at hf; cases hf
 | some f =>
  rw [e] at hf
  simp only [Option.map_some,Option.some.injEq,Prod.mk.injEq] at hf
  have e':gs[i]? = some f:=by simpa using e
  have hs:=hfi.sizeOf w
  rw [← hf.1] at hs
  simp [Instr.fieldAt,run_underlying hu,e',Instr.sureAddr,fieldPlace,hs,hz,addr_add,hf.2]
theorem evField_sound (hT:Tab.ok C.P T) (h:HeapOK C E H w) {x:Operand} {t:TypeId} {i:Nat} (ho:o.op = .fieldAddr t x i) {vx:AV} (hx:Rel E true vx (a.eval x)) {r:VEff} (he:evField T t i vx=some r):Good C E H w a o id ⟨r.1,r.2,[]⟩:=by
 refine Good.val h fun hq => ?_
 unfold evField at he
 split at he
 ·rename_i fs hk
  split at he
  ·rename_i ft off hf
   split at he
   ·rename_i fi hfi
    split at he
    ·cases he
    ·rename_i hz
     have hu:∃ gs,C.P.underlying t=some (.struct gs)/\gs.toList.map (fun f=>(f.type,f.offset))=fs:=Tab.kind_ok hT hk
     have hrun:=fun b k=>run_fieldAt hu hf (hT _ _ hfi) hz w b k
     generalize hzz:a.eval x=z at hx
     split at he
     ·rename_i b p
      cases he
      cases hx with
      | ptr _ _ hb=>exact ⟨_,by simp [execOp,ho,hzz,hrun]; rfl,by
        have:=Rel.ptr (E:=E) b (p ++ [.fld off]) hb
        simpa [poff_append,poff] using this⟩
     ·rename_i b j sz p
      cases he
      cases hx with
      | vp _ _ _ _ hb=>exact ⟨_,by simp [execOp,ho,hzz,hrun]; rfl,by
        have:=Rel.vp (E:=E) b j sz (p ++ [.fld off]) hb
        simpa [poff_append,poff,Nat.add_assoc] using this⟩
     ·rename_i cs
      cases e:dropC cs off with
      | none=>rw [e] at he; cases he
      | some cs' =>
       rw [e] at he
       cases he
       cases hx with
       | rp b k hm hl =>
        rename_i us
        refine ⟨_,by simp [execOp,ho,hzz,hrun]; rfl,?_⟩
        obtain ⟨h1,h2⟩:=dropC_rel e hl
        refine .rp b (k + off) (fun j hj => ?_) h1
        rw [List.length_drop] at hj
        rw [List.getElem?_drop,Nat.add_assoc]
        exact hm _ (by omega)
     ·rename_i g cs
      cases e:dropC cs off with
      | none=>rw [e] at he; cases he
      | some cs' =>
       rw [e] at he
       cases he
       cases hx with
       | optN _ hg=>rw [hg] at hq; cases hq
       | optS b k _ hm hl =>
        rename_i us
        refine ⟨_,by simp [execOp,ho,hzz,hrun]; rfl,?_⟩
        obtain ⟨h1,h2⟩:=dropC_rel e hl
        refine .rp b (k + off) (fun j hj => ?_) h1
        rw [List.length_drop] at hj
        rw [List.getElem?_drop,Nat.add_assoc]
        exact hm _ (by omega)
     ·cases he
   ·cases he
  ·cases he
 ·cases he
def evIndex (T:Tab) (L:Nat->Option OB) (t:TypeId) (x ix:AV):Option VEff :=
 match ix,T.kind t with
 | .lit (.int .i64 i),some (.slice e) =>
  match T e with
  | some ei =>
   match x with
   | .sl sz n f=>if ei.size=sz then some (0<=i/\i < n,.rp (f i.toNat)) else none
   | .slc sz n f=>if ei.size=sz then some (0<=i/\i < n,.rp (f i.toNat)) else none
   | .vec b =>
    match L b with
    | some (.vec _ sz n _)=>if ei.size=sz then some (0<=i/\i < n,.vp b i.toNat sz []) else none
    | _=>none
   | .win b p sz n=>if ei.size=sz then some (0<=i/\i < n,.ptr b (p ++ [.idx i.toNat sz])) else none
   | _=>none
  | none=>none
 | .lit (.int .i64 i),some (.array len e) =>
  match T e with
  | some ei =>
   match x with
   | .ptr b p=>some (0<=i/\i < len,.ptr b (p ++ [.idx i.toNat ei.size]))
   | .vp b j sz p=>some (0<=i/\i < len,.vp b j sz (p ++ [.idx i.toNat ei.size]))
   | .rp (.arr sz n f :: _)=>if ei.size=sz then some (0<=i/\i < len/\i < n,.rp (f i.toNat)) else none
   | _=>none
  | none=>none
 | _,_=>none
theorem run_indexAt_slice {P:Program} {t e:TypeId} {ei:TI} (hu:P.underlying t=some (.slice e)) (he:TOK P e ei) (w:World) (b k n cap:Nat) (i:Int) (h0:0<=i) (h1:i < n) :
  (Instr.indexAt t (.slice (some ⟨b,k,none⟩) n cap) (.int .i64 i)).run P w = .ok (.pointer (some ⟨b,k + i.toNat * ei.size,none⟩)) w:=by
 simp [Instr.indexAt,asIntOf,run_underlying hu,h0,h1,he.sizeOf w,addr_add]
theorem run_indexAt_array {P:Program} {t e:TypeId} {ei:TI} {len:Nat} (hu:P.underlying t=some (.array len e)) (he:TOK P e ei) (w:World) (b k:Nat) (i:Int) (h0:0<=i) (h1:i < len) :
  (Instr.indexAt t (.pointer (some ⟨b,k,none⟩)) (.int .i64 i)).run P w = .ok (.pointer (some ⟨b,k + i.toNat * ei.size,none⟩)) w:=by
 simp [Instr.indexAt,asIntOf,run_underlying hu,Instr.sureAddr,h0,h1,he.sizeOf w,addr_add]
theorem ownsRow_form {w:World} {e:TypeId} {sz n:Nat} {v:Value} {xs:List Value} (h:w.ownsRow 0 e sz v n xs):(v = .slice none 0 0/\n=0) ∨ ∃ k cap,v = .slice (some ⟨k,0,none⟩) n cap/\n<=cap/\cap<=maxLen ∧
  ∃ us:List Value,w.heap[k]? = some (.cells us.toArray e (0,0))/\us.length=cap * sz/\us.take (n * sz)=xs:=by
 rcases h.2 with h | ⟨g,cap,cur,hv,_,hw,hn,hc,hs,ht⟩
 ·exact .inl h
 ·exact .inr ⟨g,cap,hv,hn,hc,cur.toList,by simpa using hw,by simpa using hs,ht⟩
theorem evIndex_sound (hT:Tab.ok C.P T) (h:HeapOK C E H w) {x ix:Operand} {t:TypeId} (ho:o.op = .indexAddr t x ix) {vx vi:AV} (hx:Rel E true vx (a.eval x)) (hi:Rel E true vi (a.eval ix))
  {L:Nat->Option OB} (hL:∀ b ob,L b=some ob->H b=some ob) {r:VEff} (he:evIndex T L t vx vi=some r):Good C E H w a o id ⟨r.1,r.2,[]⟩:=by
 refine Good.val h fun hq => ?_
 unfold evIndex at he
 split at he
 ·rename_i i e hk
  have e1:a.eval ix = .int .i64 i:=by generalize a.eval ix=u at hi; cases hi; rfl
  have hu:C.P.underlying t=some (.slice e):=Tab.kind_ok hT hk
  split at he
  ·rename_i ei hei
   have hE:=hT _ _ hei
   have slcase:∀ (sz n:Nat) (f:Nat->List AV) (b off cap:Nat) (g:Nat->List Value),ei.size=sz->0<=i->i < n->(∀ i,i < n->(g i).length=sz)->(∀ i k,i < n->k < sz->mcell E.M b (off + i * sz + k)=(g i)[k]?)->(∀ i,i < n->RelL E false (f i) (g i)) →
     a.eval x = .slice (some ⟨b,off,none⟩) n cap -> ∃ v,(execOp a.eval o).run C.P w = .ok (.value v) w/\Rel E true (.rp (f i.toNat)) v:=by
    intro sz n f b off cap g hs h0 h1 hg hm hf hxx
    have hlt:i.toNat < n:=by omega
    refine ⟨_,by simp [execOp,ho,hxx,e1,run_indexAt_slice hu hE w b off n cap i h0 h1,Result.andThen]; rfl,?_⟩
    refine .rp b _ (us:=g i.toNat) (fun k hk => ?_) (hf _ hlt)
    rw [hg _ hlt] at hk
    rw [hs]
    exact hm _ _ hlt hk
   generalize hzz:a.eval x=z at hx
   split at he
   ·rename_i sz n f
    split at he
    ·rename_i hs
     cases he
     cases hx with
     | slN=>exact absurd hq (by omega)
     | slZ=>exact absurd hq (by omega)
     | slA _ _ _ b off cap g hn hc hg hm hf=>exact slcase sz n f b off cap g hs hq.1 hq.2 hg hm hf hzz
    ·cases he
   ·rename_i sz n f
    split at he
    ·rename_i hs
     cases he
     cases hx with
     | slcN=>exact absurd hq (by omega)
     | slcZ=>exact absurd hq (by omega)
     | slcA _ _ _ b off g hc hg hm hf=>exact slcase sz n f b off n g hs hq.1 hq.2 hg hm hf hzz
    ·cases he
   ·rename_i b
    split at he
    ·rename_i ty sz n f hLb
     split at he
     ·rename_i hs
      cases he
      obtain ⟨hd,g,hh,hown,_⟩:=h.own b _ (hL _ _ hLb)
      cases hx with
      | vec _ hh' _ =>
       rw [hh] at hh'
       cases hh'
       rcases ownsRow_form hown with ⟨hv,hn⟩ | ⟨k,cap,hv,_⟩
       ·subst hn; exact absurd hq (by omega)
       ·subst hv
        refine ⟨_,by simp [execOp,ho,hzz,e1,run_indexAt_slice hu hE w k 0 n cap i hq.1 hq.2,Result.andThen]; rfl,?_⟩
        have:=Rel.vp (E:=E) b i.toNat sz [] hh
        simpa [poff,hs] using this
     ·cases he
    ·cases he
   ·rename_i b p sz n
    split at he
    ·rename_i hs
     cases he
     cases hx with
     | win _ _ _ _ hb hn =>
     rename_i k cap
     refine ⟨_,by simp [execOp,ho,hzz,e1,run_indexAt_slice hu hE w k (poff p) n cap i hq.1 hq.2,Result.andThen]; rfl,?_⟩
     have:=Rel.ptr (E:=E) b (p ++ [.idx i.toNat sz]) hb
     simpa [poff_append,poff,hs] using this
    ·cases he
   ·cases he
  ·cases he
 ·rename_i i len e hk
  have e1:a.eval ix = .int .i64 i:=by generalize a.eval ix=u at hi; cases hi; rfl
  have hu:C.P.underlying t=some (.array len e):=Tab.kind_ok hT hk
  split at he
  ·rename_i ei hei
   have hE:=hT _ _ hei
   generalize hzz:a.eval x=z at hx
   split at he
   ·rename_i b p
    cases he
    cases hx with
    | ptr _ _ hb =>
     refine ⟨_,by simp [execOp,ho,hzz,e1,run_indexAt_array hu hE w _ _ i hq.1 hq.2,Result.andThen]; rfl,?_⟩
     have:=Rel.ptr (E:=E) b (p ++ [.idx i.toNat ei.size]) hb
     simpa [poff_append,poff] using this
   ·rename_i b j sz p
    cases he
    cases hx with
    | vp _ _ _ _ hb =>
     refine ⟨_,by simp [execOp,ho,hzz,e1,run_indexAt_array hu hE w _ _ i hq.1 hq.2,Result.andThen]; rfl,?_⟩
     have:=Rel.vp (E:=E) b j sz (p ++ [.idx i.toNat ei.size]) hb
     simpa [poff_append,poff,Nat.add_assoc] using this
   ·rename_i sz n f cs
    split at he
    ·rename_i hs
     cases he
     obtain ⟨h0,h1,h2⟩:=hq
     cases hx with
     | rp b k hm hl =>
      rename_i us
      cases hl with
      | cons h' _ _=>cases h'
      | arr g hg hf hs' =>
       rename_i us0
       have hlt:i.toNat < n:=by omega
       refine ⟨_,by simp [execOp,ho,hzz,e1,run_indexAt_array hu hE w b k i h0 h1,Result.andThen]; rfl,?_⟩
       refine .rp b _ (us:=g i.toNat) (fun j hj => ?_) (hf _ hlt)
       rw [hg _ hlt] at hj
       have hfl:=flat_length g sz n hg
       have hin:i.toNat * sz + sz<=n * sz:=by
        have:(i.toNat + 1) * sz<=n * sz:=Nat.mul_le_mul_right _ hlt
        rw [Nat.add_mul] at this; omega
       have:=hm (i.toNat * sz + j) (by rw [List.length_append,hfl]; omega)
       rw [List.getElem?_append_left (by rw [hfl]; omega),flat_get g sz n hg _ _ hlt hj] at this
       rw [hs,Nat.add_assoc]
       exact this
    ·cases he
   ·cases he
  ·cases he
 ·cases he
end
end Go.Ab
namespace Go.Ab
open Go Go.RowKit
section
variable {C:Ctx} {E:Env} {H:Heap} {w:World} {a:Act} {o:Oper} {id:Nat} {T:Tab}
def cellsAV:AV->Option (List AV)
 | .agg cs=>some cs
 | .lit v=>if v.oneCell' then some [.lit v] else none
 | .any=>none
 | .tup _=>none
 | .arr _ _ _=>none
 | .cnd _ _=>none
 | .fn _=>none
 | av=>some [av]
theorem cells_one {u:Value} (h:u.oneCell'=true):u.cells.toList = [u]:=by cases u <;> first | rfl | cases h
theorem cellsAV_rel {o:Bool} {av:AV} {u:Value} {cs:List AV} (h:cellsAV av=some cs) (hr:Rel E o av u):RelL E o cs u.cells.toList:=by
 cases av <;> simp only [cellsAV] at h <;> try (cases h; done)
 ·split at h
  ·rename_i h1
   cases h
   cases hr
   rw [cells_one h1]
   exact .cons (.lit _) h1 .nil
  ·cases h
 ·cases h; cases hr with | agg h=>simpa [Value.cells] using h
 all_goals cases h
 ·cases hr with
  | slN=>exact .cons (.slN _ _) rfl .nil
  | slZ=>exact .cons (.slZ _ _ _) rfl .nil
  | slA _ _ _ b off cap g hn hc hg hm h=>exact .cons (.slA _ _ _ b off cap g hn hc hg hm h) rfl .nil
 ·cases hr with
  | slcN=>exact .cons (.slcN _ _) rfl .nil
  | slcZ=>exact .cons (.slcZ _ _ _) rfl .nil
  | slcA _ _ _ b off g hc hg hm h=>exact .cons (.slcA _ _ _ b off g hc hg hm h) rfl .nil
 ·cases hr with | rp b k hm h=>exact .cons (.rp b k hm h) rfl .nil
 ·cases hr with | mth b k hm h=>exact .cons (.mth b k hm h) rfl .nil
 ·cases hr with | mtv h=>exact .cons (.mtv h) rfl .nil
 ·cases hr with
  | optN _ h=>exact .cons (.optN _ h) rfl .nil
  | optS b k hg hm h=>exact .cons (.optS b k hg hm h) rfl .nil
 ·cases hr with
  | oslN _ _ _ h=>exact .cons (.oslN _ _ _ h) rfl .nil
  | oslS a k c hg h=>exact .cons (.oslS a k c hg h) rfl .nil
 ·cases hr with | mz b a c hM hw=>exact .cons (.mz b a c hM hw) rfl .nil
 ·cases hr with | ptr _ _ h=>exact .cons (.ptr _ _ h) rfl .nil
 ·cases hr with | vec _ h h1=>rw [cells_one h1]; exact .cons (.vec _ h h1) h1 .nil
 ·cases hr with | vp _ _ _ _ h=>exact .cons (.vp _ _ _ _ h) rfl .nil
 ·cases hr with | win _ _ _ _ h hn=>exact .cons (.win _ _ _ _ h hn) rfl .nil
 ·cases hr with | clo _ hl h=>exact .cons (.clo _ hl h) rfl .nil
def mkAV (ti:TI) (cs:List AV):Option AV :=
 if ti.k.isAgg then some (.agg cs)
 else match cs with
  | [.arr _ _ _]=>none
  | [c]=>some c
  | _=>none
theorem mkAV_rel {o:Bool} {ti:TI} {cs:List AV} {us:List Value} {av:AV} (h:mkAV ti cs=some av) (hr:RelL E o cs us):Rel E o av (mkVal ti us):=by
 unfold mkAV at h
 unfold mkVal
 split at h
 ·rename_i ha
  cases h
  rw [if_pos ha]
  exact .agg hr
 ·rename_i ha
  rw [if_neg ha]
  split at h
  ·cases h
  ·rename_i c _
   cases h
   cases hr with
   | cons h h1 hs=>cases hs; exact h
   | arr g hg h hs=>rename_i hne; exact absurd rfl (hne _ _ _)
  ·cases h
def evLoad (T:Tab) (L:Nat->Option OB) (t:TypeId) (x:AV):Option VEff :=
 match T t with
 | none=>none
 | some ti =>
  match x with
  | .rp cs=>(takeC cs ti.size).bind fun cs'=>(mkAV ti cs').map fun v=>(True,v)
  | .ptr b p =>
   match L b with
   | some (.cells _ cs)=>(nav cs p).bind fun r=>(takeC r.1 ti.size).bind fun cs'=>(mkAV ti cs').map fun v=>(r.2,v)
   | some (.fz _ cs)=>(nav cs p).bind fun r=>(takeC r.1 ti.size).bind fun cs'=>(mkAV ti cs').map fun v=>(r.2,v)
   | _=>none
  | .vp b i sz p =>
   match L b with
   | some (.vec _ sz' n f)=>if sz=sz' then (nav (f i) p).bind fun r=>(takeC r.1 ti.size).bind fun cs'=>(mkAV ti cs').map fun v=>((i < n/\r.2),v) else none
   | _=>none
  | _=>none
theorem takeC_len {o:Bool} {cs cs':List AV} {us:List Value} {k:Nat} (h:takeC cs k=some cs') (hr:RelL E o cs us):(us.take k).length=k:=by
 have:=(takeC_rel h hr).2
 rw [List.length_take]; omega
theorem evLoad_run (hT:Tab.ok C.P T) (h:HeapOK C E H w) {t:TypeId} {vx:AV} {z:Value} (hx:Rel E true vx z)
  {L:Nat->Option OB} (hL:∀ b ob,L b=some ob->H b=some ob) {r:VEff} (he:evLoad T L t vx=some r) (hq:r.1):∃ v,(Instr.loadAt t z).run C.P w = .ok v w/\Rel E true r.2 v:=by
 unfold evLoad at he
 cases ht:T t with
 | none=>rw [ht] at he; cases he
 | some ti =>
  rw [ht] at he
  have hti:=hT t ti ht
  -- the load,from what stands at the address
  have key:∀ (b k:Nat) (ob:Bool) (cs cs':List AV) (us:List Value) (av:AV),z = .pointer (some ⟨b,k,none⟩)->RelL E ob cs us->(∀ j,j < us.length->w.cell? ⟨b,k + j,none⟩=us[j]?)->takeC cs ti.size=some cs'->mkAV ti cs'=some av →
    ∃ v,(Instr.loadAt t z).run C.P w = .ok v w/\Rel E true av v:=by
   intro b k ob cs cs' us av hxx hr hc h1 h2
   obtain ⟨h3,h4⟩:=takeC_rel h1 hr
   have hl:=takeC_len h1 hr
   refine ⟨mkVal ti (us.take ti.size),?_,(mkAV_rel h2 h3).up⟩
   have:=run_loadAt hti w b k (us.take ti.size) hl (fun j hj=>by
    rw [hl] at hj
    rw [List.getElem?_take,if_pos hj]
    exact hc j (by omega))
   rw [hxx]; exact this
  simp only at he
  split at he
  ·rename_i cs
   cases e:takeC cs ti.size with
   | none=>rw [e] at he; cases he
   | some cs' =>
    rw [e] at he
    cases e2:mkAV ti cs' with
    | none=>rw [Option.bind_some,e2] at he; cases he
    | some av =>
     rw [Option.bind_some,e2] at he
     cases he
     cases hx with
     | rp b k hm hl=>exact key b k false cs cs' _ av rfl hl (fun j hj=>by rw [List.getElem?_eq_getElem hj]; exact h.cell ((hm j hj).trans (List.getElem?_eq_getElem hj))) e e2
  ·rename_i b p
   have go:∀ (ob:Bool) (cs:List AV) (us:List Value) (k:Nat) (ty:TypeId) (fr:Nat × Nat),E.blk b=some k->w.heap[k]? = some (.cells us.toArray ty fr)->RelL E ob cs us →
     ((nav cs p).bind fun r=>(takeC r.1 ti.size).bind fun cs'=>(mkAV ti cs').map fun v=>(r.2,v))=some r -> ∃ v,(Instr.loadAt t z).run C.P w = .ok v w/\Rel E true r.2 v:=by
    intro ob cs us k ty fr hk hw hr he
    cases e:nav cs p with
    | none=>rw [e] at he; cases he
    | some y =>
     rw [e,Option.bind_some] at he
     cases e1:takeC y.1 ti.size with
     | none=>rw [e1] at he; cases he
     | some cs' =>
      rw [e1,Option.bind_some] at he
      cases e2:mkAV ti cs' with
      | none=>rw [e2] at he; cases he
      | some av =>
       rw [e2] at he
       cases he
       obtain ⟨us',h3,h4⟩:=nav_rel (cs':=y.1) (q:=y.2) e hq hr
       cases hx with
       | ptr _ _ hb =>
        rw [hk] at hb
        cases hb
        exact key k (poff p) ob y.1 cs' us' av rfl h3 (fun j hj=>by rw [← h4 j hj]; simp [World.cell?,hw]) e1 e2
   split at he
   ·rename_i ty cs hLb
    obtain ⟨k,us,hk,_,_,hw,hr⟩:=h.own b _ (hL _ _ hLb)
    exact go _ cs us k _ _ hk hw hr he
   ·rename_i ty cs hLb
    obtain ⟨k,us,hk,hm,hr⟩:=h.own b _ (hL _ _ hLb)
    exact go _ cs us k _ _ hk (h.mem _ _ hm) hr he
   ·cases he
  ·rename_i b i sz p
   split at he
   ·rename_i ty sz' n f hLb
    split at he
    ·rename_i hs
     subst hs
     cases e:nav (f i) p with
     | none=>rw [e] at he; cases he
     | some y =>
      rw [e,Option.bind_some] at he
      cases e1:takeC y.1 ti.size with
      | none=>rw [e1] at he; cases he
      | some cs' =>
       rw [e1,Option.bind_some] at he
       cases e2:mkAV ti cs' with
       | none=>rw [e2] at he; cases he
       | some av =>
        rw [e2] at he
        cases he
        obtain ⟨hi,hq⟩:=hq
        obtain ⟨hd,g,hh,hown,hg,hf,_⟩:=h.own b _ (hL _ _ hLb)
        obtain ⟨us',h3,h4⟩:=nav_rel (cs':=y.1) (q:=y.2) e hq (hf i hi)
        cases hx with
        | vp _ _ _ _ hb =>
         rename_i k n' c
         rw [hh] at hb
         cases hb
         rcases ownsRow_form hown with ⟨hv,_⟩ | ⟨k',cap,hv,_,_,us,hw,_,ht'⟩
         ·cases hv
         ·cases hv
          refine key k _ false y.1 cs' us' av rfl h3 (fun j hj => ?_) e1 e2
          rw [← h4 j hj]
          have hb:poff p + j < (g i).length:=by
           rcases Nat.lt_or_ge (poff p + j) (g i).length with hlt | hge
           ·exact hlt
           ·have:=h4 j hj
            rw [List.getElem?_eq_none hge,List.getElem?_eq_getElem hj] at this
            cases this
          rw [hg i hi] at hb
          have hfl:=flat_get g sz _ hg i (poff p + j) hi hb
          rw [← hfl,← ht',List.getElem?_take,if_pos (by
           have:=Nat.mul_le_mul_right sz (show i + 1<=n from hi)
           rw [Nat.add_mul] at this; omega)]
          simp [World.cell?,hw,Nat.add_assoc]
    ·cases he
   ·cases he
  ·cases he
theorem evLoad_sound (hT:Tab.ok C.P T) (h:HeapOK C E H w) {x:Operand} {t:TypeId} (ho:o.op = .load t x) {vx:AV} (hx:Rel E true vx (a.eval x))
  {L:Nat->Option OB} (hL:∀ b ob,L b=some ob->H b=some ob) {r:VEff} (he:evLoad T L t vx=some r):Good C E H w a o id ⟨r.1,r.2,[]⟩:=by
 refine Good.val h fun hq => ?_
 obtain ⟨v,h1,h2⟩:=evLoad_run hT h hx hL he hq
 exact ⟨v,by simp [execOp,ho,h1],h2⟩
def evLen (T:Tab) (L:Nat->Option OB) (t:TypeId) (x:AV):Option VEff :=
 match T.kind t with
 | some (.slice _) =>
  match x with
  | .sl _ n _=>some (True,.lit (.int .i64 (n:Int)))
  | .slc _ n _=>some (True,.lit (.int .i64 (n:Int)))
  | .lit (.slice none 0 0)=>some (True,.lit (.int .i64 0))
  | .vec b =>
   match L b with
   | some (.vec _ _ n _)=>some (True,.lit (.int .i64 (n:Int)))
   | _=>none
  | .win _ _ _ n=>some (True,.lit (.int .i64 (n:Int)))
  | _=>none
 | _=>none
theorem evLen_sound (hT:Tab.ok C.P T) (h:HeapOK C E H w) {x:Operand} {t:TypeId} (ho:o.op = .call { callee := .builtin .len,args := #[x],argTypes := #[t] }) {vx:AV} (hx:Rel E true vx (a.eval x))
  {L:Nat->Option OB} (hL:∀ b ob,L b=some ob->H b=some ob) {r:VEff} (he:evLen T L t vx=some r):Good C E H w a o id ⟨r.1,r.2,[]⟩:=by
 refine Good.val h fun hq => ?_
 unfold evLen at he
 split at he
 ·rename_i e hk
  have hu:C.P.underlying t=some (.slice e):=Tab.kind_ok hT hk
  have key:∀ (ad:Option Addr) (n cap:Nat),a.eval x = .slice ad n cap->(execOp a.eval o).run C.P w = .ok (.value (.int .i64 (n:Int))) w:=by
   intro ad n cap hxx
   simp [execOp,ho,resolve,invoke,builtin,Builtin.len_,hxx,run_underlying hu,goInt]
  generalize hzz:a.eval x=z at hx
  split at he
  ·cases he
   cases hx with
   | slN=>exact ⟨_,key _ _ _ hzz,.lit _⟩
   | slZ=>exact ⟨_,key _ _ _ hzz,.lit _⟩
   | slA=>exact ⟨_,key _ _ _ hzz,.lit _⟩
  ·cases he
   cases hx with
   | slcN=>exact ⟨_,key _ _ _ hzz,.lit _⟩
   | slcZ=>exact ⟨_,key _ _ _ hzz,.lit _⟩
   | slcA=>exact ⟨_,key _ _ _ hzz,.lit _⟩
  ·cases he
   cases hx
   exact ⟨_,key _ _ _ hzz,.lit _⟩
  ·rename_i b
   split at he
   ·rename_i ty sz n f hLb
    cases he
    obtain ⟨hd,g,hh,hown,_⟩:=h.own b _ (hL _ _ hLb)
    cases hx with
    | vec _ hh' _ =>
     rw [hh] at hh'
     cases hh'
     rcases ownsRow_form hown with ⟨hv,hn⟩ | ⟨k,cap,hv,_⟩
     ·subst hv; subst hn; exact ⟨_,key _ _ _ hzz,.lit _⟩
     ·subst hv; exact ⟨_,key _ _ _ hzz,.lit _⟩
   ·cases he
  ·cases he
   cases hx with
   | win=>exact ⟨_,key _ _ _ hzz,.lit _⟩
  ·cases he
 ·cases he
def evMM (b:Builtin) (x y:AV):Option VEff :=
 match x,y with
 | .lit (.int k m),.lit (.int k' n) =>
  if k=k' then
   match b with
   | .min=>some (True,.lit (.int k (min m n)))
   | .max=>some (True,.lit (.int k (max m n)))
   | _=>none
  else none
 | _,_=>none
theorem evMM_sound (h:HeapOK C E H w) {b:Builtin} {x y:Operand} {ts:Array TypeId} (ho:o.op = .call { callee := .builtin b,args := #[x,y],argTypes:=ts }) {vx vy:AV} (hx:Rel E true vx (a.eval x)) (hy:Rel E true vy (a.eval y))
  {r:VEff} (he:evMM b vx vy=some r):Good C E H w a o id ⟨r.1,r.2,[]⟩:=by
 refine Good.val h fun hq => ?_
 unfold evMM at he
 split at he
 ·rename_i k m k' n
  have e1:a.eval x = .int k m:=by generalize a.eval x=u at hx; cases hx; rfl
  have e2:a.eval y = .int k' n:=by generalize a.eval y=u at hy; cases hy; rfl
  split at he
  ·rename_i hk
   subst hk
   split at he
   ·cases he
    refine ⟨.int k (min m n),?_,.lit _⟩
    have:(if n < m then n else m)=min m n:=by rw [Int.min_def]; split <;> split <;> omega
    simp [execOp,ho,resolve,invoke,builtin,Builtin.min_,e1,e2,Builtin.min2,this]
   ·cases he
    refine ⟨.int k (max m n),?_,.lit _⟩
    have:(if n > m then n else m)=max m n:=by rw [Int.max_def]; split <;> split <;> omega
    have this':(if m < n then n else m)=max m n:=this
    simp [execOp,ho,resolve,invoke,builtin,Builtin.max_,e1,e2,Builtin.max2,this']
   ·cases he
  ·cases he
 ·cases he
end
end Go.Ab
namespace Go.Ab
open Go Go.RowKit
section
variable {C:Ctx} {E:Env} {H:Heap} {w:World} {a:Act} {o:Oper} {id:Nat} {T:Tab}
def litI:AV->Option Int
 | .lit (.int .i64 n)=>some n
 | _=>none
theorem litI_rel {ob:Bool} {v:AV} {n:Int} (h:litI v=some n) {u:Value} (hr:Rel E ob v u):u = .int .i64 n:=by
 unfold litI at h
 split at h
 ·cases h; cases hr; rfl
 ·cases h
def optI:Option AV->Option (Option Int)
 | none=>some none
 | some v=>(litI v).map some
def slOf:AV->Option (Nat × Nat × (Nat->List AV))
 | .sl sz n f=>some (sz,n,f)
 | .slc sz n f=>some (sz,n,f)
 | _=>none
theorem slOf_rel {ob:Bool} {v:AV} {sz n:Nat} {f:Nat->List AV} (h:slOf v=some (sz,n,f)) {u:Value} (hr:Rel E ob v u):Rel E ob (.sl sz n f) u:=by
 unfold slOf at h
 split at h
 ·cases h; exact hr
 ·cases h
  cases hr with
  | slcN=>exact .slN _ _
  | slcZ=>exact .slZ _ _ _
  | slcA _ _ _ b off g hc hg hm h=>exact .slA _ _ _ b off _ g (Nat.le_refl _) hc hg hm h
 ·cases h
def evSlice (T:Tab) (t:TypeId) (x:AV) (lo hi mx:Option AV):Option VEff :=
 match T.kind t,slOf x,optI lo,optI hi,optI mx with
 | some (.slice e),some (sz,n,f),some lo,some hi,some mx =>
  match T e with
  | some ei =>
   if ei.size=sz then
    match lo,hi,mx with
    | none,some h,some m=>some (h=n/\m=n,.slc sz n f)
    | none,some h,none=>some (0<=h/\h<=n,.sl sz h.toNat f)
    | some l,none,none=>some (0<=l/\l<=n,.sl sz (n - l.toNat) (fun j=>f (l.toNat + j)))
    | some l,some h,none=>some (0<=l/\l<=h/\h<=n,.sl sz (h.toNat - l.toNat) (fun j=>f (l.toNat + j)))
    | _,_,_=>none
   else none
  | none=>none
 | _,_,_,_,_=>none
theorem run_slice_gen {P:Program} {t e:TypeId} {ei:TI} (hu:P.underlying t=some (.slice e)) (he:TOK P e ei) (w:World) (ad:Option Addr) (n cap:Nat) (l h:Int) (lo hi:Option Value)
  (hlo:lo=some (.int .i64 l) ∨ (lo=none/\l=0)) (hhi:hi=some (.int .i64 h) ∨ (hi=none/\h=n)) (h0:0<=l) (h1:l<=h) (h2:h<=n) (h3:n<=cap) :
  (Instr.sliceAt t (.slice ad n cap) lo hi none).run P w = .ok (.slice (if cap=l.toNat then ad else ad.map (·.add (l.toNat * ei.size))) (h.toNat - l.toNat) (cap - l.toNat)) w:=by
 have a1:h<=cap:=by omega
 have a2:0<=h:=by omega
 have a3:l<=(h.toNat:Int):=by omega
 rcases hlo with rfl | ⟨rfl,rfl⟩ <;> rcases hhi with rfl | ⟨rfl,rfl⟩
 ·have:=run_sliceBound (P:=P) (w:=w) .i64 h cap .sliceAcap a2 a1
  have t2:=run_sliceBound (P:=P) (w:=w) .i64 l h.toNat .sliceB h0 a3
  simp [Instr.sliceAt,Instr.slice,run_underlying hu,Instr.sliceBounds,this,t2,he.sizeOf w]
 ·have t2:=run_sliceBound (P:=P) (w:=w) .i64 l n .sliceB h0 (by omega)
  simp [Instr.sliceAt,Instr.slice,run_underlying hu,Instr.sliceBounds,t2,he.sizeOf w]
 ·have:=run_sliceBound (P:=P) (w:=w) .i64 h cap .sliceAcap a2 a1
  simp [Instr.sliceAt,Instr.slice,run_underlying hu,Instr.sliceBounds,this,he.sizeOf w]
 ·simp [Instr.sliceAt,Instr.slice,run_underlying hu,Instr.sliceBounds,he.sizeOf w]
theorem sl_cut {sz n l h:Nat} {f:Nat->List AV} {u:Value} (hr:Rel E true (.sl sz n f) u) (h1:l<=h) (h2:h<=n) :
  ∃ ad cap,u = .slice ad n cap/\n<=cap/\Rel E true (.sl sz (h - l) (fun j=>f (l + j))) (.slice (if cap=l then ad else ad.map (·.add (l * sz))) (h - l) (cap - l)):=by
 cases hr with
 | slN =>
  have hl:l=0:=by omega
  have hh:h=0:=by omega
  subst hl; subst hh
  exact ⟨none,0,rfl,Nat.le_refl _,by simpa using Rel.slN sz _⟩
 | slZ _ _ a =>
  have hl:l=0:=by omega
  have hh:h=0:=by omega
  subst hl; subst hh
  exact ⟨some a,0,rfl,Nat.le_refl _,by simpa using Rel.slZ sz _ a⟩
 | slA _ _ _ b off cap g hn hc hg hm hf =>
  refine ⟨_,cap,rfl,hn,?_⟩
  by_cases hcl:cap=l
  ·rw [if_pos hcl]
   have:h - l=0:=by omega
   rw [this]
   exact .slA sz 0 _ b off _ g (by omega) (by omega) (fun i hi=>absurd hi (by omega)) (fun i k hi=>absurd hi (by omega)) (fun i hi=>absurd hi (by omega))
  ·rw [if_neg hcl,Option.map_some,addr_add]
   refine .slA sz (h - l) _ b _ _ (fun j=>g (l + j)) (by omega) (by omega) (fun i hi=>hg _ (by omega)) (fun i k hi hk => ?_) (fun i hi=>hf _ (by omega))
   have:=hm (l + i) k (by omega) hk
   rw [Nat.add_mul] at this
   rw [← this]
   congr 1
   omega
theorem optI_rel {lo:Option Operand} {vlo:Option AV} {l:Option Int} (hv:∀ v,vlo=some v -> ∃ x,lo=some x/\Rel E true v (a.eval x)) (hn:vlo=none->lo=none) (h:optI vlo=some l) :
  lo.map a.eval=l.map (Value.int .i64):=by
 cases vlo with
 | none=>rw [hn rfl]; simp only [optI,Option.some.injEq] at h; subst h; rfl
 | some v =>
  obtain ⟨x,rfl,hr⟩:=hv v rfl
  simp only [optI] at h
  cases e:litI v with
  | none=>rw [e] at h; cases h
  | some n =>
   rw [e] at h
   cases h
   simp [litI_rel e hr]
theorem evSlice_sound (hT:Tab.ok C.P T) (h:HeapOK C E H w) {x:Operand} {lo hi mx:Option Operand} {t:TypeId} (ho:o.op = .slice t x lo hi mx) {vx:AV} {vlo vhi vmx:Option AV} (hx:Rel E true vx (a.eval x))
  (hlo:∀ v,vlo=some v -> ∃ x,lo=some x/\Rel E true v (a.eval x)) (hlo':vlo=none->lo=none) (hhi:∀ v,vhi=some v -> ∃ x,hi=some x/\Rel E true v (a.eval x)) (hhi':vhi=none->hi=none)
  (hmx:∀ v,vmx=some v -> ∃ x,mx=some x/\Rel E true v (a.eval x)) (hmx':vmx=none->mx=none)
  {r:VEff} (he:evSlice T t vx vlo vhi vmx=some r):Good C E H w a o id ⟨r.1,r.2,[]⟩:=by
 refine Good.val h fun hq => ?_
 unfold evSlice at he
 split at he
 ·rename_i e sz n f l h' m hk hs h1 h2 h3
  have hu:C.P.underlying t=some (.slice e):=Tab.kind_ok hT hk
  have r1:=optI_rel hlo hlo' h1
  have r2:=optI_rel hhi hhi' h2
  have r3:=optI_rel hmx hmx' h3
  have hsl:=slOf_rel hs hx
  split at he
  ·rename_i ei hei
   have hE:=hT _ _ hei
   split at he
   ·rename_i hsz
    subst hsz
    split at he
    ·rename_i hh mm
     cases he
     obtain ⟨q1,q2⟩:=hq
     subst q1; subst q2
     generalize hzz:a.eval x=z at hsl
     have hb:=run_sliceBound (P:=C.P) (w:=w) .i64 (n:Int) n .slice3B (by omega) (by omega)
     cases hsl with
     | slN =>
      have hb':=run_sliceBound (P:=C.P) (w:=w) .i64 ((0:Nat):Int) 0 .slice3Acap (by omega) (by omega)
      refine ⟨.slice none 0 0,?_,.slcN _ _⟩
      simp only [Int.toNat_natCast] at hb hb'
      rw [show ((0:Nat):Int)=0 from rfl] at hb hb'
      simp [execOp,ho,hzz,r1,r2,r3,Instr.sliceAt,Instr.slice,run_underlying hu,Instr.sliceBounds,hb',hb,hE.sizeOf w]
     | slZ _ _ ad =>
      have hb':=run_sliceBound (P:=C.P) (w:=w) .i64 ((0:Nat):Int) 0 .slice3Acap (by omega) (by omega)
      refine ⟨.slice (some ad) 0 0,?_,.slcZ _ _ _⟩
      simp only [Int.toNat_natCast] at hb hb'
      rw [show ((0:Nat):Int)=0 from rfl] at hb hb'
      simp [execOp,ho,hzz,r1,r2,r3,Instr.sliceAt,Instr.slice,run_underlying hu,Instr.sliceBounds,hb',hb,hE.sizeOf w]
     | slA _ _ _ b off cap g hn hc hg hm hf =>
      have hb':=run_sliceBound (P:=C.P) (w:=w) .i64 (n:Int) cap .slice3Acap (by omega) (by omega)
      refine ⟨.slice (some ⟨b,off,none⟩) n n,?_,.slcA _ _ _ b off g (by omega) hg hm hf⟩
      simp only [Int.toNat_natCast] at hb hb'
      simp [execOp,ho,hzz,r1,r2,r3,Instr.sliceAt,Instr.slice,run_underlying hu,Instr.sliceBounds,hb',hb,hE.sizeOf w,addr_add]
    ·rename_i hh
     cases he
     obtain ⟨ad,cap,hu',hcap,hrel⟩:=sl_cut hsl (l:=0) (h:=hh.toNat) (Nat.zero_le _) (by omega)
     have:=run_slice_gen hu hE w ad n cap 0 hh none (some (.int .i64 hh)) (.inr ⟨rfl,rfl⟩) (.inl rfl) (Int.le_refl _) hq.1 hq.2 hcap
     exact ⟨_,by simp only [execOp,ho,hu',r1,r2,r3,Option.map_some,Option.map_none,this,Sem.run_bind,Result.andThen_ok,Sem.run_pure]; rfl,by simpa using hrel⟩
    ·rename_i ll
     cases he
     obtain ⟨ad,cap,hu',hcap,hrel⟩:=sl_cut hsl (l:=ll.toNat) (h:=n) (by omega) (Nat.le_refl _)
     have:=run_slice_gen hu hE w ad n cap ll n (some (.int .i64 ll)) none (.inl rfl) (.inr ⟨rfl,rfl⟩) hq.1 hq.2 (Int.le_refl _) hcap
     rw [Int.toNat_natCast] at this
     exact ⟨_,by simp only [execOp,ho,hu',r1,r2,r3,Option.map_some,Option.map_none,this,Sem.run_bind,Result.andThen_ok,Sem.run_pure],hrel⟩
    ·rename_i ll hh
     cases he
     obtain ⟨q0,q1,q2⟩:=hq
     obtain ⟨ad,cap,hu',hcap,hrel⟩:=sl_cut hsl (l:=ll.toNat) (h:=hh.toNat) (by omega) (by omega)
     have:=run_slice_gen hu hE w ad n cap ll hh (some (.int .i64 ll)) (some (.int .i64 hh)) (.inl rfl) (.inl rfl) q0 q1 q2 hcap
     exact ⟨_,by simp only [execOp,ho,hu',r1,r2,r3,Option.map_some,Option.map_none,this,Sem.run_bind,Result.andThen_ok,Sem.run_pure],hrel⟩
    ·cases he
   ·cases he
  ·cases he
 ·cases he
def fillAV (fs:List (TypeId × Nat)) (T:Tab):List AV->List (Nat × AV)->Option (List AV)
 | cs,[]=>some cs
 | cs,(i,v) :: r =>
  match fs[i]?,cellsAV v with
  | some (ft,off),some vs =>
   match T ft,setP cs [.fld off] vs with
   | some fi,some (cs',_,_)=>if clen vs=fi.size then fillAV fs T cs' r else none
   | _,_=>none
  | _,_=>none
theorem foldl_setIf (off:Nat):∀ (vs:List Value) (j:Nat) (us:List Value),off + j + vs.length<=us.length →
  ((vs.zipIdx j).foldl (fun (cs:Array Value) p=>cs.setIfInBounds (off + p.2) p.1) us.toArray)=(ovw us (off + j) vs).toArray:=by
 intro vs
 induction vs with
 | nil=>intro j us h; simp [ovw]
 | cons v vs ih =>
  intro j us h
  simp only [List.length_cons] at h
  simp only [List.zipIdx_cons,List.foldl_cons]
  have hset:us.toArray.setIfInBounds (off + j) v=(us.set (off + j) v).toArray:=by simp
  rw [hset,ih (j + 1) (us.set (off + j) v) (by simp; omega)]
  congr 1
  unfold ovw
  have hlt:off + j < us.length:=by omega
  have h1:(us.set (off + j) v).take (off + (j + 1))=us.take (off + j) ++ [v]:=by
   rw [show off + (j + 1)=(off + j) + 1 by omega,List.take_succ_eq_append_getElem (by simpa using hlt)]
   simp [List.take_set_of_le]
  have h2:(us.set (off + j) v).drop (off + (j + 1) + vs.length)=us.drop (off + j + (vs.length + 1)):=by
   rw [List.drop_set_of_lt (by omega)]
   congr 1; omega
  rw [h1,h2]
  simp
theorem fill_rel {ob:Bool} {fs:List (TypeId × Nat)} {places:List (Nat × Nat)} (hp:∀ (i:Nat) (ft:TypeId) (off:Nat) (fi:TI),fs[i]? = some (ft,off)->T ft=some fi->places[i]? = some (off,fi.size)) :
  ∀ (parts:List (Nat × AV)) (vals:List (Nat × Value)) (cs cs':List AV) (us:List Value),parts.length=vals.length->(∀ (k:Nat) (p:Nat × AV) (q:Nat × Value),parts[k]? = some p->vals[k]? = some q->p.1=q.1/\Rel E ob p.2 q.2) →
   fillAV fs T cs parts=some cs'->RelL E ob cs us -> ∃ us',Instr.fill (places[·]?) us.toArray vals=some us'.toArray/\RelL E ob cs' us':=by
 intro parts
 induction parts with
 | nil =>
  intro vals cs cs' us hl _ h r
  cases vals with
  | nil=>simp only [fillAV,Option.some.injEq] at h; subst h; exact ⟨us,rfl,r⟩
  | cons=>cases hl
 | cons p parts ih =>
  intro vals cs cs' us hl hpq h r
  cases vals with
  | nil=>cases hl
  | cons q vals =>
   obtain ⟨i,v⟩:=p
   obtain ⟨i',u⟩:=q
   obtain ⟨rfl,hr⟩:=hpq 0 _ _ rfl rfl
   simp only [fillAV] at h
   split at h
   ·rename_i ft off vs hf hc
    split at h
    ·rename_i fi cs2 q d hfi hs
     split at h
     ·rename_i hlen
      have hcr:=cellsAV_rel hc hr
      have hq:q:=by
       simp only [setP] at hs
       cases e1:takeC cs off with
       | none=>rw [e1] at hs; cases hs
       | some a1 =>
        cases e2:dropC cs off with
        | none=>rw [e1,e2] at hs; cases hs
        | some a2 =>
         rw [e1,e2] at hs
         cases e3:dropC a2 (clen vs) with
         | none=>simp [e3] at hs
         | some a3=>simp [e3] at hs; exact hs.2.1
      have hd:d=true->RelL E false vs u.cells.toList:=by
       intro hd
       simp only [setP] at hs
       cases e1:takeC cs off with
       | none=>rw [e1] at hs; cases hs
       | some a1 =>
        cases e2:dropC cs off with
        | none=>rw [e1,e2] at hs; cases hs
        | some a2 =>
         rw [e1,e2] at hs
         cases e3:dropC a2 (clen vs) with
         | none=>simp [e3] at hs
         | some a3=>simp [e3] at hs; rw [hd] at hs; exact absurd hs.2.2 (by simp)
      obtain ⟨h1,h2⟩:=setP_rel hcr hs hq hd r
      simp only [poff,Nat.add_zero] at h1 h2
      have hsz:u.cells.size=fi.size:=by have:=hcr.length; rw [hlen] at this; simpa using this
      obtain ⟨us',h3,h4⟩:=ih vals cs2 cs' _ (by simpa using hl) (fun k=>hpq (k + 1)) h h1
      refine ⟨us',?_,h4⟩
      simp only [Instr.fill,hp _ _ _ _ hf hfi]
      have hsz2:off + u.cells.size<=us.length:=by simpa using h2
      have hng:¬ (off + u.cells.size > us.toArray.size):=by simp; omega
      have hne:¬ (u.cells.size ≠ fi.size):=by simp [hsz]
      have hfold:=foldl_setIf off u.cells.toList 0 us (by simpa using hsz2)
      simp only [Nat.add_zero] at hfold
      have hzi:u.cells.zipIdx.foldl (fun (cs:Array Value) (x:Value × Nat)=>cs.setIfInBounds (off + x.2) x.1) us.toArray=(ovw us off u.cells.toList).toArray:=by
       rw [← hfold,← Array.foldl_toList,Array.toList_zipIdx]
      simp only [hne,hng,decide_false,Bool.or_false,Bool.false_eq_true,if_false]
      rw [hzi]
      exact h3
     ·cases h
    ·cases h
   ·cases h
def evBuild (T:Tab) (t:TypeId) (parts:List (Nat × AV)):Option VEff :=
 match T t with
 | some ti =>
  match ti.k with
  | .struct fs=>if fs.all (fun p=>(T p.1).isSome) then (fillAV fs T ti.za parts).map fun cs=>(True,.agg cs) else none
  | _=>none
 | none=>none
theorem run_places' {P:Program} {T:Tab} (hT:Tab.ok P T) (w:World):∀ (gs:List Field),(gs.map fun f=>(f.type,f.offset)).all (fun p=>(T p.1).isSome)=true →
  ∃ places:List (Nat × Nat),(gs.mapM fun f=>do pure (f.offset,← sizeOf f.type):Sem (List (Nat × Nat))).run P w = .ok places w ∧
   ∀ (i:Nat) (ft:TypeId) (off:Nat) (fi:TI),(gs.map fun f=>(f.type,f.offset))[i]? = some (ft,off)->T ft=some fi->places[i]? = some (off,fi.size):=by
 intro gs
 induction gs with
 | nil=>intro _; exact ⟨[],rfl,fun i ft off fi h=>by simp at h⟩
 | cons g gs ih =>
  intro h
  simp only [List.map_cons,List.all_cons,Bool.and_eq_true] at h
  obtain ⟨pl,h1,h2⟩:=ih h.2
  cases e:T g.type with
  | none=>rw [e] at h; simp at h
  | some gi =>
   refine ⟨(g.offset,gi.size) :: pl,?_,?_⟩
   ·rw [List.mapM_cons]
    simp only [Sem.run_bind,(hT _ _ e).sizeOf w,Result.andThen_ok,Sem.run_pure,h1]
   ·intro i ft off fi hi hf
    cases i with
    | zero =>
     simp only [List.map_cons,List.getElem?_cons_zero,Option.some.injEq,Prod.mk.injEq] at hi
     obtain ⟨rfl,rfl⟩:=hi
     rw [e] at hf
     cases hf
     rfl
    | succ i=>exact h2 i ft off fi (by simpa using hi) hf
theorem evBuild_sound (hT:Tab.ok C.P T) (h:HeapOK C E H w) {t:TypeId} {parts:Array (Nat × Operand)} (ho:o.op = .build t parts) {vals:List (Nat × AV)} (hl:vals.length=parts.size)
  (hv:∀ (k:Nat) p q,vals[k]? = some p->parts.toList[k]? = some q->p.1=q.1/\Rel E true p.2 (a.eval q.2)) {r:VEff} (he:evBuild T t vals=some r):Good C E H w a o id ⟨r.1,r.2,[]⟩:=by
 refine Good.val h fun hq => ?_
 unfold evBuild at he
 split at he
 ·rename_i ti hti
  split at he
  ·rename_i fs hk
   split at he
   ·rename_i hall
    have hOK:=hT t ti hti
    obtain ⟨i,z,hi,hs,_,hz,hzs,hza⟩:=hOK.info
    have hund:=hOK.und
    rw [hk] at hund
    obtain ⟨gs,hu,hg⟩:=hund
    cases e:fillAV fs T ti.za vals with
    | none=>rw [e] at he; cases he
    | some cs =>
     rw [e] at he
     cases he
     rw [← hg] at hall
     obtain ⟨places,hp1,hp2⟩:=run_places' hT w gs.toList hall
     rw [hg] at hp2
     obtain ⟨us',hf,hr⟩:=fill_rel hp2 vals (parts.toList.map fun p=>(p.1,a.eval p.2)) _ cs z.cells.toList (by simpa using hl) (by
      intro k p q hk hkq
      rw [List.getElem?_map] at hkq
      cases e':parts.toList[k]? with
      | none=>rw [e'] at hkq; cases hkq
      | some q' =>
       rw [e'] at hkq
       simp only [Option.map_some,Option.some.injEq] at hkq
       subst hkq
       exact hv k p q' hk e') e (hza E true)
     have hpa:(gs.mapM fun f=>do pure (f.offset,← sizeOf f.type):Sem (Array (Nat × Nat))).run C.P w = .ok places.toArray w:=by
      rw [← Array.toArray_toList (xs:=gs),List.mapM_toArray]
      simp only [bind_pure_comp] at hp1 ⊢
      simp [hp1]
     refine ⟨.agg us'.toArray,?_,.agg hr⟩
     have hf':Instr.fill (fun x=>places[x]?) z.cells (parts.toList.map fun p=>(p.1,a.eval p.2))=some us'.toArray:=by simpa using hf
     have hzv:(zeroValue t).run C.P w = .ok z w:=by simp [zeroValue,typeInfo,hi,hz]
     have hb:(Instr.build t (parts.map fun p=>(p.1,a.eval p.2))).run C.P w = .ok (.agg us'.toArray) w:=by
      unfold Instr.build
      simp only [Sem.run_bind,hzv,Result.andThen_ok,run_underlying hu]
      simp only [bind_pure_comp] at hpa
      simp only [bind_pure_comp,hpa,Result.andThen_ok,Array.toList_map]
      have:(fun x:Nat=>places.toArray[x]?)=(fun x:Nat=>places[x]?):=by funext x; simp
      rw [this,hf']
      rfl
     simp [execOp,ho,hb]
   ·cases he
  ·cases he
 ·cases he
theorem evMakeFunc_sound (h:HeapOK C E H w) {f:FuncId} {caps:Array Operand} (ho:o.op = .makeFunc (.func f) #[] caps) {vals:List AV} (hl:vals.length=caps.size)
  (hv:∀ k,Rel E true (vals.getD k .any) ((caps.toList.map a.eval).getD k undef)):Good C E H w a o id ⟨True,.clo f vals,[]⟩:=by
 refine Good.val h fun hq=>⟨.func (.func f) #[] (caps.toList.map a.eval).toArray,?_,.clo f (by simpa using hl.symm) hv⟩
 have:caps.map a.eval=(caps.toList.map a.eval).toArray:=by apply Array.ext'; simp
 simp only [execOp,ho,Instr.makeFunc,this,Array.map_empty,Sem.run_bind,Sem.run_pure,Result.andThen_ok]
def isRp:AV->Bool
 | .rp _=>true
 | _=>false
def capOK:AV->Bool
 | .lit _=>true
 | .sl _ _ _=>true
 | .slc _ _ _=>true
 | .rp _=>true
 | .opt _ _=>true
 | .osl _ _ _ _=>true
 | .mz _ _ _ _ _=>true
 | .arr _ _ _=>true
 | .clo _ cs=>cs.all isRp
 | _=>false
theorem capOK_down {E:Env}:∀ {cs:List AV} {us:List Value},cs.all capOK=true->RelL E true cs us->RelL E false cs us:=by
 intro cs
 induction cs with
 | nil=>intro us _ h; cases h; exact .nil
 | cons c cs ih =>
  intro us hc h
  simp only [List.all_cons,Bool.and_eq_true] at hc
  cases h with
  | cons h h1 hs =>
   refine .cons ?_ h1 (ih hc.2 hs)
   cases h with
   | lit=>exact .lit _
   | slN=>exact .slN _ _
   | slZ=>exact .slZ _ _ _
   | slA _ _ _ b off cap g hn hcc hg hm h=>exact .slA _ _ _ b off cap g hn hcc hg hm h
   | slcN=>exact .slcN _ _
   | slcZ=>exact .slcZ _ _ _
   | slcA _ _ _ b off g hcc hg hm h=>exact .slcA _ _ _ b off g hcc hg hm h
   | rp b off hm h=>exact .rp b off hm h
   | optN _ h=>exact .optN _ h
   | optS b off hg hm h=>exact .optS b off hg hm h
   | oslN _ _ _ h=>exact .oslN _ _ _ h
   | mz b a c hM hw=>exact .mz b a c hM hw
   | oslS a k c hg h=>exact .oslS a k c hg (by cases h with | slZ=>exact .slZ _ _ _ | slA _ _ _ b off _ g hn hcc hgl hm h=>exact .slA _ _ _ b off _ g hn hcc hgl hm h)
   | @clo _ caps us f hl hk =>
    have hc1:=List.all_eq_true.1 hc.1
    refine .clo f hl fun k => ?_
    have hk:=hk k
    by_cases hkl:k < caps.length
    ·have hr:isRp (caps.getD k .any)=true:=by rw [List.getD_eq_getElem?_getD,List.getElem?_eq_getElem hkl]; exact hc1 _ (List.getElem_mem hkl)
     generalize caps.getD k .any=v at hr hk ⊢
     generalize us.getD k undef=u at hk ⊢
     cases hk with
     | rp b off hm h=>exact .rp b off hm h
     | _=>cases hr
    ·rw [List.getD_eq_getElem?_getD,List.getElem?_eq_none (by omega)]; exact .any _
   | _=>cases hc.1
  | arr g hg h hs=>exact .arr g hg h (ih hc.2 hs)
def evMakeM (f:FuncId) (v:AV):Option VEff :=
 match v with
 | .rp cs=>some (True,.mth f cs)
 | .opt g cs=>some (g=true,.mth f cs)
 | .agg cs=>if cs.all capOK then some (True,.mtv f cs) else none
 | _=>none
theorem evMakeM_sound (h:HeapOK C E H w) {f:FuncId} {x:Operand} (ho:o.op = .makeFunc (.func f) #[x] #[]) {vx:AV} (hx:Rel E true vx (a.eval x)) {r:VEff} (he:evMakeM f vx=some r):Good C E H w a o id ⟨r.1,r.2,[]⟩:=by
 refine Good.val h fun hq=>⟨.func (.func f) #[a.eval x] #[],?_,?_⟩
 ·simp [execOp,ho,Instr.makeFunc]
 ·unfold evMakeM at he
  split at he
  ·cases he
   generalize a.eval x=z at hx
   cases hx with
   | rp b off hm h=>exact .mth b off hm h
  ·cases he
   generalize a.eval x=z at hx
   cases hx with
   | optN _ h=>exact absurd (h.symm.trans hq) (by simp)
   | optS b off hg hm h=>exact .mth b off hm h
  ·split at he
   ·rename_i hc
    cases he
    generalize a.eval x=z at hx
    cases hx with
    | agg h=>exact .mtv (capOK_down hc h)
   ·cases he
  ·cases he
def isPtr:AV->Bool
 | .ptr _ _ | .vp _ _ _ _ | .rp _ | .opt _ _=>true
 | _=>false
def nilQ:AV->Prop
 | .opt g _=>g=true
 | _=>True
theorem evNil_sound (h:HeapOK C E H w) {x:Operand} (ho:o.op = .nilCheck x) {vx:AV} (hx:Rel E true vx (a.eval x)) (hp:isPtr vx=true):Good C E H w a o id ⟨nilQ vx,vx,[]⟩:=by
 refine Good.val h fun hq=>⟨a.eval x,?_,hx⟩
 generalize hzz:a.eval x=z at hx
 cases hx <;> first | (cases hp; done) | (simp [execOp,ho,hzz]; done) | (rename_i h; exact absurd (h.symm.trans hq) (by simp))
end
end Go.Ab
namespace Go.Ab
open Go Go.RowKit
section
variable {C:Ctx} {E:Env} {H:Heap} {w:World} {a:Act} {o:Oper} {id:Nat} {T:Tab}
theorem HeapOK.freezeVec (h:HeapOK C E H w) {b:Nat} {t:TypeId} {sz n:Nat} {f:Nat->List AV} (hb:H b=some (.vec t sz n f)) :
  ∃ E',E.le E'/\E'.blk=E.blk/\E'.hdr=E.hdr/\HeapOK C E' (H.put b none) w /\ ∀ hd,E.hdr b=some hd -> ∀ ob,Rel E' ob (.sl sz n f) hd:=by
 obtain ⟨hd,g,hh,hown,hg,hf,hbk,hav⟩:=h.own b _ hb
 rcases ownsRow_form hown with ⟨hv,hn⟩ | ⟨k,cap,hv,hnc,hcm,us,hw,hul,htk⟩
 ·refine ⟨E,Env.le.refl E,rfl,rfl,h.drop (fun i ob hi => ?_),fun hd' hh' ob => ?_⟩
  ·unfold Heap.put at hi
   split at hi
   ·cases hi
   ·exact hi
  ·rw [hh] at hh'; cases hh'
   subst hv; subst hn
   exact .slN _ _
 ·subst hv
  obtain ⟨ha,hM⟩:=hav k rfl
  have le:=Env.le_freeze (o := .cells us.toArray t (0,0)) hM
  refine ⟨_,le,rfl,rfl,h.freeze b k _ (by rw [hb]; simp) hbk ha hM hw,fun hd' hh' ob => ?_⟩
  rw [hh] at hh'; cases hh'
  refine .slA sz n f k 0 cap g hnc hcm hg (fun i j hi hj => ?_) (fun i hi=>(hf i hi).mono le)
  have hfl:=flat_get g sz n hg i j hi hj
  have hin:i * sz + j < n * sz:=by
   have:(i + 1) * sz<=n * sz:=Nat.mul_le_mul_right _ hi
   rw [Nat.add_mul] at this; omega
  rw [← htk,List.getElem?_take,if_pos hin] at hfl
  rw [← hfl]
  simp [mcell,frozen_self]
def dropIds (H:Heap) (bs:List Nat):Heap:=bs.foldl (fun H b=>H.put b none) H
def noDup:List Nat->Bool
 | []=>true
 | b :: r => !r.contains b && noDup r
theorem dropIds_other (bs:List Nat):∀ (H:Heap) (b:Nat),b ∉ bs->dropIds H bs b=H b:=by
 induction bs with
 | nil=>intro H b _; rfl
 | cons c bs ih =>
  intro H b hb
  have h1:b ≠ c:=fun e=>hb (e ▸ List.mem_cons_self)
  have h2:b ∉ bs:=fun e=>hb (List.mem_cons_of_mem _ e)
  show dropIds (H.put c none) bs b=H b
  rw [ih _ _ h2]
  exact if_neg h1
theorem HeapOK.freezeAll:∀ (bs:List Nat) (E:Env) (H:Heap),HeapOK C E H w->noDup bs=true->(∀ b ∈ bs,∃ t sz n f,H b=some (.vec t sz n f)) →
  ∃ E',E.le E'/\E'.blk=E.blk/\E'.hdr=E.hdr/\HeapOK C E' (dropIds H bs) w /\ ∀ b ∈ bs,∀ t sz n f,H b=some (.vec t sz n f) -> ∀ hd,E.hdr b=some hd -> ∀ ob,Rel E' ob (.sl sz n f) hd:=by
 intro bs
 induction bs with
 | nil=>intro E H h _ _; exact ⟨E,Env.le.refl E,rfl,rfl,h,fun b hb=>by cases hb⟩
 | cons b bs ih =>
  intro E H h hnd hv
  simp only [noDup,Bool.and_eq_true,Bool.not_eq_true',List.contains_eq_mem,decide_eq_false_iff_not] at hnd
  obtain ⟨t,sz,n,f,hb⟩:=hv b List.mem_cons_self
  obtain ⟨E1,le1,b1,h1,hok1,hr1⟩:=h.freezeVec hb
  have hne:∀ c ∈ bs,(H.put b none) c=H c:=fun c hc=>if_neg (fun e=>hnd.1 (by rw [← e]; exact hc))
  obtain ⟨E2,le2,b2,h2,hok2,hr2⟩:=ih E1 (H.put b none) hok1 hnd.2 (fun c hc=>by
   obtain ⟨t',sz',n',f',hc'⟩:=hv c (List.mem_cons_of_mem _ hc)
   exact ⟨t',sz',n',f',by rw [hne c hc]; exact hc'⟩)
  refine ⟨E2,le1.trans le2,b2.trans b1,h2.trans h1,hok2,fun c hc t' sz' n' f' hc' hd hh ob => ?_⟩
  cases hc with
  | head =>
   rw [hb] at hc'
   cases hc'
   exact (hr1 hd hh ob).mono le2
  | tail _ hc=>exact hr2 c hc t' sz' n' f' (by rw [hne c hc]; exact hc') hd (by rw [h1]; exact hh) ob
def frz1 (L:Nat->Option OB):AV->Option (AV × List Nat)
 | .vec b =>
  match L b with
  | some (.vec _ sz n f)=>some (.sl sz n f,[b])
  | _=>none
 | .lit v=>some (.lit v,[])
 | .sl sz n f=>some (.sl sz n f,[])
 | .slc sz n f=>some (.slc sz n f,[])
 | .rp cs=>some (.rp cs,[])
 | .opt g cs=>some (.opt g cs,[])
 | .arr sz n f=>some (.arr sz n f,[])
 | .any=>some (.any,[])
 | _=>none
def frzL (L:Nat->Option OB):List AV->Option (List AV × List Nat)
 | []=>some ([],[])
 | c :: cs =>
  match frz1 L c,frzL L cs with
  | some (c',bs),some (cs',bs')=>some (c' :: cs',bs ++ bs')
  | _,_=>none
theorem frzL_ids {L:Nat->Option OB}:∀ {cs cs':List AV} {bs:List Nat},frzL L cs=some (cs',bs) -> ∀ b ∈ bs,∃ t sz n f,L b=some (.vec t sz n f):=by
 intro cs
 induction cs with
 | nil=>intro cs' bs h b hb; simp only [frzL,Option.some.injEq,Prod.mk.injEq] at h; rw [← h.2] at hb; cases hb
 | cons c cs ih =>
  intro cs' bs h b hb
  simp only [frzL] at h
  split at h
  ·rename_i c' b1 cs2 b2 e1 e2
   cases h
   rcases List.mem_append.1 hb with hb | hb
   ·cases c <;> simp only [frz1] at e1 <;> try (first | (cases e1; done) | (cases e1; cases hb; done))
    split at e1
    ·rename_i t sz n f hL
     cases e1
     rw [List.mem_singleton] at hb
     exact ⟨t,sz,n,f,by rw [hb]; exact hL⟩
    ·cases e1
   ·exact ih e2 b hb
  ·cases h
theorem frzL_rel {L:Nat->Option OB} {E':Env} (le:E.le E'):∀ {cs cs':List AV} {bs:List Nat} {us:List Value},frzL L cs=some (cs',bs) →
  (∀ b ∈ bs,∀ t sz n f,L b=some (.vec t sz n f) -> ∀ hd,E.hdr b=some hd -> ∀ ob,Rel E' ob (.sl sz n f) hd)->RelL E true cs us->RelL E' false cs' us:=by
 intro cs
 induction cs with
 | nil=>intro cs' bs us h _ r; simp only [frzL,Option.some.injEq,Prod.mk.injEq] at h; rw [← h.1]; cases r; exact .nil
 | cons c cs ih =>
  intro cs' bs us h hv r
  simp only [frzL] at h
  split at h
  ·rename_i c' b1 cs2 b2 e1 e2
   cases h
   cases r with
   | cons h h1 hs =>
    refine .cons ?_ h1 (ih e2 (fun b hb=>hv b (List.mem_append_right _ hb)) hs)
    cases c <;> simp only [frz1] at e1 <;> try (cases e1; done)
    ·cases e1; exact .any _
    ·cases e1; cases h; exact .lit _
    ·cases h
    ·cases e1
     cases h with
     | slN=>exact .slN _ _
     | slZ=>exact .slZ _ _ _
     | slA _ _ _ b off cap g hn hc hg hm h=>exact (Rel.slA (o:=false) _ _ _ b off cap g hn hc hg hm h).mono le
    ·cases e1
     cases h with
     | slcN=>exact .slcN _ _
     | slcZ=>exact .slcZ _ _ _
     | slcA _ _ _ b off g hc hg hm h=>exact (Rel.slcA (o:=false) _ _ _ b off g hc hg hm h).mono le
    ·cases e1
     cases h with
     | rp b k hm h=>exact (Rel.rp (o:=false) b k hm h).mono le
    ·cases e1
     cases h with
     | optN _ h=>exact .optN _ h
     | optS b k hg hm h=>exact (Rel.optS (o:=false) b k hg hm h).mono le
    ·split at e1
     ·rename_i t sz n f hL
      cases e1
      cases h with
      | vec _ hh _=>exact hv _ (by simp) t sz n f hL _ hh false
     ·cases e1
   | arr g hg h hs =>
    simp only [frz1,Option.some.injEq,Prod.mk.injEq] at e1
    rw [← e1.1]
    exact .arr g hg (fun i hi=>(h i hi).mono le) (ih e2 (fun b hb=>hv b (List.mem_append_right _ hb)) hs)
  ·cases h
theorem upds_drop (H:Heap) (bs:List Nat) (r:List (Nat × Option OB)):H.upds (bs.map (fun b=>(b,none)) ++ r)=(dropIds H bs).upds r:=by
 induction bs generalizing H with
 | nil=>rfl
 | cons b bs ih=>exact ih (H.put b none)
theorem evNew_sound (h:HeapOK C E H w) (hf:E.blk id=none) {t:TypeId} {cs:List AV} {us:List Value} (hr:RelL E true cs us)
  (hrun:(execOp a.eval o).run C.P w = .ok (.value (.pointer (some ⟨w.heap.size,0,none⟩))) (w.alloc (.cells us.toArray t))):Good C E H w a o id ⟨True,.ptr id [],[(id,some (.cells t cs))]⟩:=by
 intro _
 refine ⟨_,_,_,.inl hrun,Env.le_setBlk hf,h.newCells id hf t cs us hr,?_,fun j hj=>⟨setBlk_other _ _ _ _ (by omega),rfl⟩⟩
 exact .ptr id [] (setBlk_self _ _ _)
def evBox (t:TypeId) (x:AV) (id:Nat):Option Eff:=(cellsAV x).map fun cs=>⟨True,.ptr id [],[(id,some (.cells t cs))]⟩
theorem evBox_sound (h:HeapOK C E H w) (hf:E.blk id=none) {x:Operand} {t:TypeId} (ho:o.op = .box t x) {vx:AV} (hx:Rel E true vx (a.eval x)) {r:Eff} (he:evBox t vx id=some r):Good C E H w a o id r:=by
 unfold evBox at he
 cases e:cellsAV vx with
 | none=>rw [e] at he; cases he
 | some cs =>
  rw [e] at he
  cases he
  refine evNew_sound h hf (cellsAV_rel e hx) ?_
  simp [execOp,ho,Instr.box,newVar,newRow]
def evBoxF (L:Nat->Option OB) (x:AV):Option Eff :=
 match cellsAV x with
 | some cs =>
  match frzL L cs with
  | some (cs',bs)=>if noDup bs then some ⟨True,.rp cs',bs.map fun b=>(b,none)⟩ else none
  | none=>none
 | none=>none
theorem evBoxF_sound (h:HeapOK C E H w) (hf:E.blk id=none) (hH:H id=none) {x:Operand} {t:TypeId} (ho:o.op = .box t x) {vx:AV} (hx:Rel E true vx (a.eval x))
  {L:Nat->Option OB} (hL:∀ b ob,L b=some ob->H b=some ob) {r:Eff} (he:evBoxF L vx=some r):Good C E H w a o id r:=by
 unfold evBoxF at he
 split at he
 ·rename_i cs hc
  have hcr:=cellsAV_rel hc hx
  split at he
  ·rename_i cs' bs hfz
   split at he
   ·rename_i hnd
    cases he
    intro _
    have hvec:∀ c ∈ bs,∃ t sz n f,H c=some (.vec t sz n f):=fun c hc=>by
     obtain ⟨t1,s1,n1,f1,e1⟩:=frzL_ids hfz c hc
     exact ⟨t1,s1,n1,f1,hL _ _ e1⟩
    obtain ⟨E',le,hblk,hhdr,hok,hrel⟩:=HeapOK.freezeAll bs E H h hnd hvec
    have hpr:=frzL_rel le hfz (fun c hc t1 s1 n1 f1 e1=>hrel c hc t1 s1 n1 f1 (hL _ _ e1)) hcr
    have hf':E'.blk id=none:=by rw [hblk]; exact hf
    have hn:=hok.newCells id hf' t cs' _ hpr.up
    have le1:=Env.le_setBlk (k:=w.heap.size) hf'
    obtain ⟨k,us,hk,ha,hM,hw,hr⟩:=hn.own id (.cells t cs') (by unfold Heap.put; rw [if_pos rfl])
    have hk0:k=w.heap.size:=by
     rw [setBlk_self] at hk; cases hk; rfl
    subst hk0
    have hus:us=(a.eval x).cells.toList:=by
     rw [World.alloc_heap_new] at hw
     have:=congrArg (fun o:Option Obj=>match o with | some (.cells v _ _)=>v.toList | _=>[]) hw
     simpa using this.symm
    have le2:=Env.le_freeze (o := .cells us.toArray t (0,0)) hM
    have hz:=hn.freeze id _ _ (by unfold Heap.put; rw [if_pos rfl]; simp) hk ha hM hw
    have hid:¬ id ∈ bs:=fun hm=>by
     obtain ⟨t1,s1,n1,f1,e1⟩:=hvec id hm
     rw [hH] at e1; cases e1
    refine ⟨.pointer (some ⟨w.heap.size,0,none⟩),_,_,.inl ?_,(le.trans le1).trans le2,hz.drop (fun i ob hi => ?_),.rp (us:=us) _ 0 (fun j hj => ?_) ?_,fun j hj=>⟨?_,?_⟩⟩
    ·simp [execOp,ho,Instr.box,newVar,newRow]
    ·have hu:=upds_drop H bs []
     rw [List.append_nil] at hu
     rw [hu] at hi
     replace hi:dropIds H bs i=some ob:=hi
     have hne:i ≠ id:=fun e=>by
      rw [e,dropIds_other bs H id hid,hH] at hi; cases hi
     unfold Heap.put
     rw [if_neg hne,if_neg hne]; exact hi
    ·simp [mcell,frozen_self]
    ·have hpr':=(hpr.mono le1).mono le2
     rw [← hus] at hpr'; exact hpr'
    ·show (E'.setBlk id w.heap.size).blk j=_
     rw [setBlk_other _ _ _ _ (by omega),hblk]
    ·show E'.hdr j=_
     rw [hhdr]
   ·cases he
  ·cases he
 ·cases he
def evAlloc (T:Tab) (t:TypeId) (id:Nat):Option Eff:=(T t).map fun ti=>⟨True,.ptr id [],[(id,some (.cells t ti.za))]⟩
theorem evAlloc_sound (hT:Tab.ok C.P T) (h:HeapOK C E H w) (hf:E.blk id=none) {t:TypeId} (ho:o.op = .alloc t) {r:Eff} (he:evAlloc T t id=some r):Good C E H w a o id r:=by
 unfold evAlloc at he
 cases e:T t with
 | none=>rw [e] at he; cases he
 | some ti =>
  rw [e] at he
  cases he
  obtain ⟨i,z,hi,hs,_,hz,hzs,hza⟩:=(hT t ti e).info
  refine evNew_sound h hf (us:=z.cells.toList) (hza E true) ?_
  have hzv:(zeroValue t).run C.P w = .ok z w:=by simp [zeroValue,typeInfo,hi,hz]
  simp [execOp,ho,Instr.alloc,newVar,newRow,hzv]
def evStore (T:Tab) (L:Nat->Option OB) (t:TypeId) (x y:AV):Option Eff :=
 match T t,cellsAV y with
 | some ti,some vs =>
  if clen vs=ti.size then
   match x with
   | .ptr b p =>
    match L b with
    | some (.cells ty cs) =>
     match setP cs p vs with
     | some (cs',q,false)=>some ⟨q,.lit undef,[(b,some (.cells ty cs'))]⟩
     | some (_,_,true) =>
      match frzL L vs with
      | some (vs',bs) =>
       match setP cs p vs' with
       | some (cs',q,_)=>if noDup (b :: bs) then some ⟨q,.lit undef,bs.map (fun b=>(b,none)) ++ [(b,some (.cells ty cs'))]⟩ else none
       | none=>none
      | none=>none
     | none=>none
    | _=>none
   | .vp b i sz p =>
    match L b with
    | some (.vec ty sz' n f) =>
     if sz=sz' then
      match frzL L vs with
      | some (vs',bs) =>
       match setP (f i) p vs' with
       | some (c',q,_)=>if noDup (b :: bs) then some ⟨i < n/\q,.lit undef,bs.map (fun b=>(b,none)) ++ [(b,some (.vec ty sz n (fun j=>if j=i then c' else f j)))]⟩ else none
       | none=>none
      | none=>none
     else none
    | _=>none
   | _=>none
  else none
 | _,_=>none
theorem noDup_cons {b:Nat} {bs:List Nat} (h:noDup (b :: bs)=true):b ∉ bs/\noDup bs=true:=by
 simpa [noDup,Bool.and_eq_true] using h
theorem ovw_flat {g:Nat->List Value} {sz n i k:Nat} {vs:List Value} (hg:∀ j,j < n->(g j).length=sz) (hi:i < n) (hk:k + vs.length<=sz) :
  (List.range n).flatMap (fun j=>if j=i then ovw (g i) k vs else g j)=ovw ((List.range n).flatMap g) (i * sz + k) vs:=by
 have key:∀ m,i < m->m<=n->(List.range m).flatMap (fun j=>if j=i then ovw (g i) k vs else g j)=ovw ((List.range m).flatMap g) (i * sz + k) vs:=by
  intro m
  induction m with
  | zero=>intro h; omega
  | succ m ih =>
   intro h1 h2
   have hfl:=flat_length g sz m (fun j hj=>hg j (by omega))
   rw [List.range_succ,List.flatMap_append,List.flatMap_append]
   simp only [List.flatMap_cons,List.flatMap_nil,List.append_nil]
   by_cases e:m=i
   ·subst e
    rw [if_pos rfl]
    have h3:(List.range m).flatMap (fun j=>if j=m then ovw (g m) k vs else g j)=(List.range m).flatMap g:=by
     rw [List.flatMap_def,List.flatMap_def]
     congr 1
     refine List.map_congr_left fun j hj => ?_
     have hjm:j < m:=List.mem_range.1 hj
     exact if_neg (Nat.ne_of_lt hjm)
    rw [h3,← hfl,ovw_append_right]
   ·rw [if_neg e,ih (by omega) (by omega)]
    have:(i + 1) * sz<=m * sz:=Nat.mul_le_mul_right _ (by omega)
    rw [Nat.add_mul] at this
    rw [ovw_append_left _ _ _ _ (by rw [hfl]; omega)]
 exact key n hi (Nat.le_refl _)
theorem evStore_sound (hT:Tab.ok C.P T) (h:HeapOK C E H w) {x y:Operand} {t:TypeId} (ho:o.op = .store t x y) {vx vy:AV} (hx:Rel E true vx (a.eval x)) (hy:Rel E true vy (a.eval y))
  {L:Nat->Option OB} (hL:∀ b ob,L b=some ob->H b=some ob) {r:Eff} (he:evStore T L t vx vy=some r):Good C E H w a o id r:=by
 unfold evStore at he
 split at he
 ·rename_i ti vs hti hc
  have hTI:=hT t ti hti
  have hcr:=cellsAV_rel hc hy
  split at he
  ·rename_i hlen
   have hvl:(a.eval y).cells.toList.length=ti.size:=by rw [hcr.length,hlen]
   -- the store itself
   have run:∀ (k off:Nat) (ty:TypeId) (us:List Value),a.eval x = .pointer (some ⟨k,off,none⟩)->w.heap[k]? = some (.cells us.toArray ty (0,0))->off + (a.eval y).cells.toList.length<=us.length →
     (execOp a.eval o).run C.P w = .ok .skip (w.setRow k (ovw us off (a.eval y).cells.toList).toArray):=by
    intro k off ty us hxx hw hle
    have:=run_storeAt hTI w k off ty us _ (a.eval y) rfl hvl hw hle hcr.oneCell
    simp [execOp,ho,hxx,this]
   split at he
   ·rename_i b p
    split at he
    ·rename_i ty cs hLb
     obtain ⟨k,us,hk,ha,hM,hw,hr⟩:=h.own b _ (hL _ _ hLb)
     have hxx:a.eval x = .pointer (some ⟨k,poff p,none⟩):=by
      generalize a.eval x=z at hx
      cases hx with
      | ptr _ _ hb=>rw [hk] at hb; cases hb; rfl
     split at he
     ·rename_i cs' q hs
      cases he
      intro hq
      obtain ⟨h1,h2⟩:=setP_rel hcr hs hq (fun hd=>by cases hd) hr
      refine ⟨undef,_,E,.inr ⟨run k _ ty us hxx hw h2,rfl⟩,Env.le.refl E,?_,.lit _,fun _ _=>⟨rfl,rfl⟩⟩
      exact h.setCells b k ty cs' _ (by rw [hL _ _ hLb]; simp) hk ha hM (grownBy_setRow w k _) (setRow_heap w k _ _ ty (0,0) hw) h1
     ·split at he
      ·rename_i vs' bs hfz
       split at he
       ·rename_i cs' q d hs
        split at he
        ·rename_i hnd
         cases he
         intro hq
         obtain ⟨hnb,hnd'⟩:=noDup_cons hnd
         obtain ⟨E',le,hblk,hhdr,hok,hrel⟩:=HeapOK.freezeAll bs E H h hnd' (fun c hc=>by
          obtain ⟨t1,s1,n1,f1,e1⟩:=frzL_ids hfz c hc
          exact ⟨t1,s1,n1,f1,hL _ _ e1⟩)
         have hpr:=frzL_rel le hfz (fun c hc t1 s1 n1 f1 e1=>hrel c hc t1 s1 n1 f1 (hL _ _ e1)) hcr
         obtain ⟨h1,h2⟩:=setP_rel (E:=E') (o:=true) hpr.up hs hq (fun _=>hpr) (hr.mono le)
         have hbH:dropIds H bs b=some (.cells ty cs):=by rw [dropIds_other bs H b hnb]; exact hL _ _ hLb
         have hM':E'.M k=none:=by
          obtain ⟨k',us',hk',_,hM',_⟩:=hok.own b _ hbH
          rw [hblk,hk] at hk'; cases hk'; exact hM'
         refine ⟨undef,_,E',.inr ⟨run k _ ty us hxx hw h2,rfl⟩,le,?_,.lit _,fun _ _=>⟨by rw [hblk],by rw [hhdr]⟩⟩
         show HeapOK C E' (H.upds _) _
         rw [upds_drop]
         exact hok.setCells b k ty cs' _ (by rw [hbH]; simp) (by rw [hblk]; exact hk) ha hM' (grownBy_setRow w k _) (setRow_heap w k _ _ ty (0,0) hw) h1
        ·cases he
       ·cases he
      ·cases he
     ·cases he
    ·cases he
   ·rename_i b i sz p
    split at he
    ·rename_i ty sz' n f hLb
     split at he
     ·rename_i hsz
      subst hsz
      split at he
      ·rename_i vs' bs hfz
       split at he
       ·rename_i c' q d hs
        split at he
        ·rename_i hnd
         cases he
         rintro ⟨hi,hq⟩
         obtain ⟨hnb,hnd'⟩:=noDup_cons hnd
         obtain ⟨hd,g,hh,hown,hg,hf,hbk,hav⟩:=h.own b _ (hL _ _ hLb)
         obtain ⟨E',le,hblk,hhdr,hok,hrel⟩:=HeapOK.freezeAll bs E H h hnd' (fun c hc=>by
          obtain ⟨t1,s1,n1,f1,e1⟩:=frzL_ids hfz c hc
          exact ⟨t1,s1,n1,f1,hL _ _ e1⟩)
         have hpr:=frzL_rel le hfz (fun c hc t1 s1 n1 f1 e1=>hrel c hc t1 s1 n1 f1 (hL _ _ e1)) hcr
         obtain ⟨h1,h2⟩:=setP_rel (E:=E') (o:=false) hpr hs hq (fun _=>hpr) ((hf i hi).mono le)
         rw [hg i hi] at h2
         have hbH:dropIds H bs b=some (.vec ty sz n f):=by rw [dropIds_other bs H b hnb]; exact hL _ _ hLb
         rcases ownsRow_form hown with ⟨hv,hn⟩ | ⟨k,cap,hv,hnc,hcm,us,hw,hul,htk⟩
         ·subst hn; omega
         ·subst hv
          obtain ⟨ha,_⟩:=hav k rfl
          have hM':E'.M k=none:=by
           obtain ⟨hd',g',hh',hown',_,_,hbk',hav'⟩:=hok.own b _ hbH
           rw [hhdr,hh] at hh'; cases hh'
           exact (hav' k rfl).2
          have hxx:a.eval x = .pointer (some ⟨k,i * sz + poff p,none⟩):=by
           generalize a.eval x=z at hx
           cases hx with
           | vp _ _ _ _ hb=>rw [hh] at hb; cases hb; rfl
          have hin:i * sz + sz<=n * sz:=by
           have:(i + 1) * sz<=n * sz:=Nat.mul_le_mul_right _ hi
           rw [Nat.add_mul] at this; omega
          have hnm:n * sz<=cap * sz:=Nat.mul_le_mul_right _ hnc
          have hle:i * sz + poff p + (a.eval y).cells.toList.length<=us.length:=by rw [hul]; omega
          refine ⟨undef,_,E',.inr ⟨run k _ ty us hxx hw hle,rfl⟩,le,?_,.lit _,fun _ _=>⟨by rw [hblk],by rw [hhdr]⟩⟩
          show HeapOK C E' (H.upds _) _
          rw [upds_drop]
          refine hok.setVec b k (by rw [hbH]; simp) (by rw [hblk]; exact hbk) ha hM' (grownBy_setRow w k _) _ ?_
          let g':Nat->List Value:=fun j=>if j=i then ovw (g i) (poff p) (a.eval y).cells.toList else g j
          have hg':∀ j,j < n->(g' j).length=sz:=by
           intro j hj
           show (if j=i then _ else _:List Value).length=sz
           by_cases ej:j=i
           ·rw [if_pos ej,ovw_length _ _ _ (by rw [hg i hi]; exact h2),hg i hi]
           ·rw [if_neg ej]; exact hg j hj
          have hfl:=flat_length g sz n hg
          have hflat:(List.range n).flatMap g'=ovw ((List.range n).flatMap g) (i * sz + poff p) (a.eval y).cells.toList:=ovw_flat hg hi (by omega)
          refine ⟨_,g',by rw [hhdr]; exact hh,⟨by rw [flat_length g' sz n hg'],.inr ⟨k,cap,_,rfl,Nat.zero_le _,setRow_heap w k _ _ ty (0,0) hw,hnc,hcm,?_,?_⟩⟩,hg',?_,by rw [hblk]; exact hbk,fun k' hk' => ?_⟩
          ·rw [← hul]
           simpa using ovw_length us _ _ hle
          ·rw [hflat]
           show (ovw us _ _).take (n * sz)=_
           rw [← htk]
           have:=ovw_append_left (us.take (n * sz)) (us.drop (n * sz)) (i * sz + poff p) (a.eval y).cells.toList (by rw [List.length_take]; omega)
           rw [List.take_append_drop] at this
           rw [this]
           have hl2:=ovw_length (us.take (n * sz)) (i * sz + poff p) (a.eval y).cells.toList (by rw [List.length_take]; omega)
           rw [List.length_take] at hl2
           rw [List.take_append_of_le_length (by omega),List.take_of_length_le (by omega)]
          ·intro j hj
           show RelL E' false (if j=i then c' else f j) (if j=i then _ else _)
           by_cases ej:j=i
           ·rw [if_pos ej,if_pos ej]; exact h1
           ·rw [if_neg ej,if_neg ej]; exact (hf j hj).mono le
          ·cases hk'
           exact ⟨ha,hM'⟩
        ·cases he
       ·cases he
      ·cases he
     ·cases he
    ·cases he
   ·cases he
  ·cases he
 ·cases he
def evStoreW (T:Tab) (L:Nat->Option OB) (t:TypeId) (x y:AV):Option Eff :=
 match T t,cellsAV y,x with
 | some ti,some vs,.vp b i sz [] =>
  if clen vs=ti.size/\ti.size=sz then
   match L b with
   | some (.vec ty sz' n f) =>
    if sz=sz' then
     match frzL L vs with
     | some (vs',bs)=>if noDup (b :: bs) then some ⟨i < n,.lit undef,bs.map (fun b=>(b,none)) ++ [(b,some (.vec ty sz n (fun j=>if j=i then vs' else f j)))]⟩ else none
     | none=>none
    else none
   | _=>none
  else none
 | _,_,_=>none
theorem evStoreW_sound (hT:Tab.ok C.P T) (h:HeapOK C E H w) {x y:Operand} {t:TypeId} (ho:o.op = .store t x y) {vx vy:AV} (hx:Rel E true vx (a.eval x)) (hy:Rel E true vy (a.eval y))
  {L:Nat->Option OB} (hL:∀ b ob,L b=some ob->H b=some ob) {r:Eff} (he:evStoreW T L t vx vy=some r):Good C E H w a o id r:=by
 unfold evStoreW at he
 split at he
 ·rename_i ti vs b i sz hti hc
  have hTI:=hT t ti hti
  have hcr:=cellsAV_rel hc hy
  split at he
  ·rename_i hlen
   obtain ⟨hlen,hts⟩:=hlen
   have hvl:(a.eval y).cells.toList.length=ti.size:=by rw [hcr.length,hlen]
   have run:∀ (k off:Nat) (ty:TypeId) (us:List Value),a.eval x = .pointer (some ⟨k,off,none⟩)->w.heap[k]? = some (.cells us.toArray ty (0,0))->off + (a.eval y).cells.toList.length<=us.length →
     (execOp a.eval o).run C.P w = .ok .skip (w.setRow k (ovw us off (a.eval y).cells.toList).toArray):=by
    intro k off ty us hxx hw hle
    have:=run_storeAt hTI w k off ty us _ (a.eval y) rfl hvl hw hle hcr.oneCell
    simp [execOp,ho,hxx,this]
   split at he
   ·rename_i ty sz' n f hLb
    split at he
    ·rename_i hsz
     subst hsz
     split at he
     ·rename_i vs' bs hfz
      split at he
      ·rename_i hnd
       cases he
       intro hi
       obtain ⟨hnb,hnd'⟩:=noDup_cons hnd
       obtain ⟨hd,g,hh,hown,hg,hf,hbk,hav⟩:=h.own b _ (hL _ _ hLb)
       obtain ⟨E',le,hblk,hhdr,hok,hrel⟩:=HeapOK.freezeAll bs E H h hnd' (fun c hc=>by
        obtain ⟨t1,s1,n1,f1,e1⟩:=frzL_ids hfz c hc
        exact ⟨t1,s1,n1,f1,hL _ _ e1⟩)
       have hpr:=frzL_rel le hfz (fun c hc t1 s1 n1 f1 e1=>hrel c hc t1 s1 n1 f1 (hL _ _ e1)) hcr
       have h2:poff [] + (a.eval y).cells.toList.length<=sz:=by rw [hvl,hts]; show 0 + sz<=sz; omega
       have h1:RelL E' false vs' (ovw (g i) (poff []) (a.eval y).cells.toList):=by
        have e:ovw (g i) (poff []) (a.eval y).cells.toList=(a.eval y).cells.toList:=by
         have hl:(g i).length=(a.eval y).cells.toList.length:=by rw [hg i hi,hvl,hts]
         show (g i).take 0 ++ _ ++ (g i).drop (0 + (a.eval y).cells.toList.length)=_
         rw [List.drop_of_length_le (by omega)]; simp
        rw [e]; exact hpr
       have hbH:dropIds H bs b=some (.vec ty sz n f):=by rw [dropIds_other bs H b hnb]; exact hL _ _ hLb
       rcases ownsRow_form hown with ⟨hv,hn⟩ | ⟨k,cap,hv,hnc,hcm,us,hw,hul,htk⟩
       ·subst hn; omega
       ·subst hv
        obtain ⟨ha,_⟩:=hav k rfl
        have hM':E'.M k=none:=by
         obtain ⟨hd',g',hh',hown',_,_,hbk',hav'⟩:=hok.own b _ hbH
         rw [hhdr,hh] at hh'; cases hh'
         exact (hav' k rfl).2
        have hxx:a.eval x = .pointer (some ⟨k,i * sz + poff [],none⟩):=by
         generalize a.eval x=z at hx
         cases hx with
         | vp _ _ _ _ hb=>rw [hh] at hb; cases hb; rfl
        have hin:i * sz + sz<=n * sz:=by
         have:(i + 1) * sz<=n * sz:=Nat.mul_le_mul_right _ hi
         rw [Nat.add_mul] at this; omega
        have hnm:n * sz<=cap * sz:=Nat.mul_le_mul_right _ hnc
        have hle:i * sz + poff [] + (a.eval y).cells.toList.length<=us.length:=by rw [hul]; omega
        refine ⟨undef,_,E',.inr ⟨run k _ ty us hxx hw hle,rfl⟩,le,?_,.lit _,fun _ _=>⟨by rw [hblk],by rw [hhdr]⟩⟩
        show HeapOK C E' (H.upds _) _
        rw [upds_drop]
        refine hok.setVec b k (by rw [hbH]; simp) (by rw [hblk]; exact hbk) ha hM' (grownBy_setRow w k _) _ ?_
        let g':Nat->List Value:=fun j=>if j=i then ovw (g i) (poff []) (a.eval y).cells.toList else g j
        have hg':∀ j,j < n->(g' j).length=sz:=by
         intro j hj
         show (if j=i then _ else _:List Value).length=sz
         by_cases ej:j=i
         ·rw [if_pos ej,ovw_length _ _ _ (by rw [hg i hi]; exact h2),hg i hi]
         ·rw [if_neg ej]; exact hg j hj
        have hfl:=flat_length g sz n hg
        have hflat:(List.range n).flatMap g'=ovw ((List.range n).flatMap g) (i * sz + poff []) (a.eval y).cells.toList:=ovw_flat hg hi (by omega)
        refine ⟨_,g',by rw [hhdr]; exact hh,⟨by rw [flat_length g' sz n hg'],.inr ⟨k,cap,_,rfl,Nat.zero_le _,setRow_heap w k _ _ ty (0,0) hw,hnc,hcm,?_,?_⟩⟩,hg',?_,by rw [hblk]; exact hbk,fun k' hk' => ?_⟩
        ·rw [← hul]
         simpa using ovw_length us _ _ hle
        ·rw [hflat]
         show (ovw us _ _).take (n * sz)=_
         rw [← htk]
         have:=ovw_append_left (us.take (n * sz)) (us.drop (n * sz)) (i * sz + poff []) (a.eval y).cells.toList (by rw [List.length_take]; omega)
         rw [List.take_append_drop] at this
         rw [this]
         have hl2:=ovw_length (us.take (n * sz)) (i * sz + poff []) (a.eval y).cells.toList (by rw [List.length_take]; omega)
         rw [List.length_take] at hl2
         rw [List.take_append_of_le_length (by omega),List.take_of_length_le (by omega)]
        ·intro j hj
         show RelL E' false (if j=i then vs' else f j) (if j=i then _ else _)
         by_cases ej:j=i
         ·rw [if_pos ej,if_pos ej]; exact h1
         ·rw [if_neg ej,if_neg ej]; exact (hf j hj).mono le
        ·cases hk'
         exact ⟨ha,hM'⟩
      ·cases he
     ·cases he
    ·cases he
   ·cases he
  ·cases he
 ·cases he
end
end Go.Ab
namespace Go.Ab
open Go Go.RowKit
section
variable {C:Ctx} {E:Env} {H:Heap} {w:World} {a:Act} {o:Oper} {id:Nat} {T:Tab}
def frzParts (L:Nat->Option OB) (sz:Nat):List AV->Option (List (List AV) × List Nat)
 | []=>some ([],[])
 | v :: r =>
  match cellsAV v with
  | some cs =>
   if clen cs=sz then
    match frzL L cs,frzParts L sz r with
    | some (cs',bs),some (r',bs')=>some (cs' :: r',bs ++ bs')
    | _,_=>none
   else none
  | none=>none
theorem frzParts_ids {L:Nat->Option OB} {sz:Nat}:∀ {vs:List AV} {r:List (List AV)} {bs:List Nat},frzParts L sz vs=some (r,bs)->r.length=vs.length /\ ∀ b ∈ bs,∃ t sz n f,L b=some (.vec t sz n f):=by
 intro vs
 induction vs with
 | nil=>intro r bs h; simp only [frzParts,Option.some.injEq,Prod.mk.injEq] at h; rw [← h.1,← h.2]; exact ⟨rfl,fun b hb=>by cases hb⟩
 | cons v vs ih =>
  intro r bs h
  simp only [frzParts] at h
  split at h
  ·split at h
   ·split at h
    ·rename_i cs' b1 r' b2 e1 e2
     cases h
     obtain ⟨h1,h2⟩:=ih e2
     refine ⟨by simp [h1],fun b hb => ?_⟩
     rcases List.mem_append.1 hb with hb | hb
     ·exact frzL_ids e1 b hb
     ·exact h2 b hb
    ·cases h
   ·cases h
  ·cases h
theorem frzParts_rel {L:Nat->Option OB} {E':Env} (le:E.le E') {sz:Nat}:∀ {vs:List AV} {r:List (List AV)} {bs:List Nat} {us:List Value},frzParts L sz vs=some (r,bs) →
  (∀ b ∈ bs,∀ t sz n f,L b=some (.vec t sz n f) -> ∀ hd,E.hdr b=some hd -> ∀ ob,Rel E' ob (.sl sz n f) hd)->us.length=vs.length->(∀ k,Rel E true (vs.getD k .any) (us.getD k undef)) →
  (∀ k,k < vs.length->RelL E' false (r.getD k []) (us.getD k undef).cells.toList) /\ ∀ u ∈ us,u.cells.size=sz:=by
 intro vs
 induction vs with
 | nil =>
  intro r bs us h _ hl _
  have:us = []:=List.eq_nil_of_length_eq_zero hl
  subst this
  exact ⟨fun k hk=>absurd hk (by simp),fun u hu=>by cases hu⟩
 | cons v vs ih =>
  intro r bs us h hv hl hr
  cases us with
  | nil=>cases hl
  | cons u us =>
   simp only [frzParts] at h
   split at h
   ·rename_i cs hc
    split at h
    ·rename_i hlen
     split at h
     ·rename_i cs' b1 r' b2 e1 e2
      cases h
      have hcr:=cellsAV_rel hc (hr 0)
      obtain ⟨h1,h2⟩:=ih e2 (fun b hb=>hv b (List.mem_append_right _ hb)) (by simpa using hl) (fun k=>by have:=hr (k + 1); simpa using this)
      refine ⟨fun k hk => ?_,fun u' hu' => ?_⟩
      ·cases k with
       | zero=>exact frzL_rel le e1 (fun b hb=>hv b (List.mem_append_left _ hb)) hcr
       | succ k=>simpa using h1 k (by simpa using hk)
      ·cases hu' with
       | head=>have:=hcr.length; rw [hlen] at this; simpa using this
       | tail _ hu'=>exact h2 u' hu'
     ·cases h
    ·cases h
   ·cases h
theorem fillSeq (size:Nat):∀ (vals:List Value) (k:Nat) (us:List Value),(∀ v ∈ vals,v.cells.size=size)->us.length=(k + vals.length) * size →
  Instr.fill (fun i=>some (i * size,size)) us.toArray ((vals.zipIdx k).map fun p=>(p.2,p.1))=some (us.take (k * size) ++ vals.flatMap (fun v=>v.cells.toList)).toArray:=by
 intro vals
 induction vals with
 | nil =>
  intro k us _ hl
  simp only [List.length_nil,Nat.add_zero] at hl
  simp [Instr.fill,← hl]
 | cons v vals ih =>
  intro k us hv hl
  have hs:=hv v List.mem_cons_self
  simp only [List.length_cons] at hl
  have hk1:(k + (vals.length + 1)) * size=k * size + size + vals.length * size:=by rw [Nat.add_mul,Nat.add_mul,Nat.one_mul]; omega
  have hfit:k * size + v.cells.toList.length<=us.length:=by rw [hl,hk1,Array.length_toList,hs]; omega
  simp only [List.zipIdx_cons,List.map_cons,Instr.fill]
  have hfold:=foldl_setIf (k * size) v.cells.toList 0 us (by simpa using hfit)
  simp only [Nat.add_zero] at hfold
  have hzi:v.cells.zipIdx.foldl (fun (cs:Array Value) (x:Value × Nat)=>cs.setIfInBounds (k * size + x.2) x.1) us.toArray=(ovw us (k * size) v.cells.toList).toArray:=by
   rw [← hfold,← Array.foldl_toList,Array.toList_zipIdx]
  have hng:¬ (k * size + v.cells.size > us.toArray.size):=by simp at hfit ⊢; omega
  have hne:¬ (v.cells.size ≠ size):=by simp [hs]
  simp only [hne,hng,decide_false,Bool.or_false,Bool.false_eq_true,if_false]
  rw [hzi,ih (k + 1) _ (fun u hu=>hv u (List.mem_cons_of_mem _ hu)) (by rw [ovw_length _ _ _ hfit,hl]; congr 1; omega)]
  congr 1
  have hks:(k + 1) * size=k * size + size:=by rw [Nat.add_mul,Nat.one_mul]
  have ht:(ovw us (k * size) v.cells.toList).take ((k + 1) * size)=us.take (k * size) ++ v.cells.toList:=by
   unfold ovw
   have h1:(us.take (k * size)).length=k * size:=by rw [List.length_take]; omega
   rw [List.take_append_of_le_length (by rw [List.length_append,h1,Array.length_toList,hs]; omega),List.take_of_length_le (by rw [List.length_append,h1,Array.length_toList,hs]; omega)]
  rw [ht]
  simp
def evBuildSlice (T:Tab) (L:Nat->Option OB) (t:TypeId) (n:Nat) (parts:List (Nat × AV)) (id:Nat):Option Eff :=
 match T.kind t with
 | some (.slice e) =>
  match T e with
  | some ei =>
   if parts.map (·.1)=List.range n/\0 < ei.size/\n * ei.size<=16777216 then
    match frzParts L ei.size (parts.map (·.2)) with
    | some (css,bs)=>if noDup bs then some ⟨True,.vec id,bs.map (fun b=>(b,none)) ++ [(id,some (.vec e ei.size n (fun j=>css.getD j ei.za)))]⟩ else none
    | none=>none
   else none
  | none=>none
 | _=>none
theorem flat_getD (vals:List Value):(List.range vals.length).flatMap (fun j=>(vals.getD j undef).cells.toList)=vals.flatMap (fun v=>v.cells.toList):=by
 rw [List.flatMap_def,List.flatMap_def]
 congr 1
 apply List.ext_getElem?
 intro i
 rw [List.getElem?_map,List.getElem?_map]
 rcases Nat.lt_or_ge i vals.length with h | h
 ·rw [List.getElem?_range h,List.getElem?_eq_getElem h]
  simp [List.getD,List.getElem?_eq_getElem h]
 ·rw [List.getElem?_eq_none (by simpa using h),List.getElem?_eq_none h]
  rfl
theorem evBuildSlice_sound (hT:Tab.ok C.P T) (h:HeapOK C E H w) (hf:E.blk id=none) (hf2:E.hdr id=none) {t:TypeId} {n:Nat} {parts:Array (Nat × Operand)} (ho:o.op = .buildSlice t n parts) {vals:List (Nat × AV)} (hl:vals.length=parts.size)
  (hv:∀ (k:Nat) p q,vals[k]? = some p->parts.toList[k]? = some q->p.1=q.1/\Rel E true p.2 (a.eval q.2))
  {L:Nat->Option OB} (hL:∀ b ob,L b=some ob->H b=some ob) {r:Eff} (he:evBuildSlice T L t n vals id=some r):Good C E H w a o id r:=by
 unfold evBuildSlice at he
 split at he
 ·rename_i e hk
  have hu:C.P.underlying t=some (.slice e):=Tab.kind_ok hT hk
  split at he
  ·rename_i ei hei
   have hE:=hT _ _ hei
   split at he
   ·rename_i hcond
    obtain ⟨hrange,hpos,hbig⟩:=hcond
    split at he
    ·rename_i css bs hfz
     split at he
     ·rename_i hnd
      cases he
      intro _
      obtain ⟨hcl,hids⟩:=frzParts_ids hfz
      obtain ⟨E',le,hblk,hhdr,hok,hrel⟩:=HeapOK.freezeAll bs E H h hnd (fun c hc=>by
       obtain ⟨t1,s1,n1,f1,e1⟩:=hids c hc
       exact ⟨t1,s1,n1,f1,hL _ _ e1⟩)
      let us:List Value:=parts.toList.map fun q=>a.eval q.2
      have hln:vals.length=n:=by have:=congrArg List.length hrange; simpa using this
      have hul:us.length=(vals.map (·.2)).length:=by simp [us,hl]
      have hvals:∀ k,Rel E true ((vals.map (·.2)).getD k .any) (us.getD k undef):=by
       intro k
       simp only [us,List.getD_eq_getElem?_getD,List.getElem?_map]
       rcases Nat.lt_or_ge k vals.length with hlt | hge
       ·have h2:k < parts.toList.length:=by simpa [hl] using hlt
        rw [List.getElem?_eq_getElem hlt,List.getElem?_eq_getElem h2]
        exact (hv k _ _ (List.getElem?_eq_getElem hlt) (List.getElem?_eq_getElem h2)).2
       ·rw [List.getElem?_eq_none hge]
        exact .any _
      obtain ⟨hr1,hr2⟩:=frzParts_rel le hfz (fun c hc t1 s1 n1 f1 e1=>hrel c hc t1 s1 n1 f1 (hL _ _ e1)) hul hvals
      have hun:us.length=n:=by rw [hul,List.length_map,hln]
      -- the run
      obtain ⟨i,z,hi,hs,_,hz,hzs,_⟩:=hE.info
      have hzv:(zeroValue e).run C.P w = .ok z w:=by simp [zeroValue,typeInfo,hi,hz]
      have hpz:(parts.map fun p=>(p.1,a.eval p.2)).toList=(us.zipIdx 0).map fun p=>(p.2,p.1):=by
       apply List.ext_getElem?
       intro k
       rw [Array.toList_map,List.getElem?_map,List.getElem?_map,List.getElem?_zipIdx]
       simp only [us,List.getElem?_map,Nat.zero_add]
       rcases Nat.lt_or_ge k parts.toList.length with h2 | h2
       ·have h1:k < vals.length:=by rw [hl]; simpa using h2
        rw [List.getElem?_eq_getElem h2]
        have hp:=(hv k _ _ (List.getElem?_eq_getElem h1) (List.getElem?_eq_getElem h2)).1
        have hk':(vals.map (·.1))[k]? = some k:=by rw [hrange,List.getElem?_range (by omega)]
        rw [List.getElem?_map,List.getElem?_eq_getElem h1] at hk'
        simp only [Option.map_some,Option.some.injEq] at hk'
        simp only [Option.map_some,Option.some.injEq,Prod.mk.injEq,and_true]
        rw [← hp,hk']
       ·rw [List.getElem?_eq_none h2]; rfl
      have hrun:(execOp a.eval o).run C.P w = .ok (.value (.slice (some ⟨w.heap.size,0,none⟩) n n)) (w.alloc (.cells (us.flatMap (fun v=>v.cells.toList)).toArray e)):=by
       have hfl:∀ zs:Array Value,zs.size=n * ei.size->Instr.fill (fun i=>some (i * ei.size,ei.size)) zs ((us.zipIdx 0).map fun p=>(p.2,p.1))=some (us.flatMap (fun v=>v.cells.toList)).toArray:=by
        intro zs hzs
        have:=fillSeq ei.size us 0 zs.toList hr2 (by rw [Array.length_toList,hzs,hun,Nat.zero_add])
        simpa using this
       have hbig':¬ (n * ei.size > 2 ^ 24):=by
        have:(2:Nat) ^ 24=16777216:=by decide
        omega
       have hb:(Instr.buildSlice t n (parts.map fun p=>(p.1,a.eval p.2))).run C.P w = .ok (.slice (some ⟨w.heap.size,0,none⟩) n n) (w.alloc (.cells (us.flatMap (fun v=>v.cells.toList)).toArray e)):=by
        unfold Instr.buildSlice
        simp only [Sem.run_bind,run_underlying hu,Result.andThen_ok,hE.sizeOf w]
        rw [if_neg hbig',hpz]
        by_cases h0:n * ei.size=0
        ·simp only [h0,if_true,Sem.run_bind,Sem.run_pure,Result.andThen_ok]
         rw [hfl _ (by simp [h0])]
         simp [newRow]
        ·simp only [h0,if_false,Sem.run_bind,Sem.run_pure,Result.andThen_ok,hzv]
         rw [hfl _ (by simp)]
         simp [newRow]
       simp [execOp,ho,hb]
      refine ⟨_,_,_,.inl hrun,le.trans (Env.le_setHdr (by rw [hblk]; exact hf) (by rw [hhdr]; exact hf2)),?_,.vec id (setHdr_self _ _ _) rfl,fun j hj=>⟨?_,?_⟩⟩
      ·show HeapOK C _ (H.upds _) _
       rw [upds_drop]
       refine hok.newVec id (by rw [hblk]; exact hf) (by rw [hhdr]; exact hf2) none (World.grownBy_alloc w _ none) (fun k hk=>by cases hk) e ei.size n _ _ (fun j=>(us.getD j undef).cells.toList) ?_ ?_ ?_ ?_
       ·have hfg:(List.range n).flatMap (fun j=>(us.getD j undef).cells.toList)=us.flatMap (fun v=>v.cells.toList):=by rw [← hun]; exact flat_getD us
        have hfs:(us.flatMap (fun v=>v.cells.toList)).length=n * ei.size:=by
         rw [← hfg]
         refine flat_length _ _ _ fun j hj => ?_
         rw [Array.length_toList]
         refine hr2 _ ?_
         rw [List.getD_eq_getElem?_getD,List.getElem?_eq_getElem (by omega)]
         exact List.getElem_mem _
        refine ⟨by rw [hfg,hfs],.inr ⟨w.heap.size,n,_,rfl,Nat.zero_le _,heap_alloc_new w _,Nat.le_refl _,?_,by simpa using hfs,?_⟩⟩
        ·have:n<=n * ei.size:=Nat.le_mul_of_pos_right _ hpos
         simp only [maxLen]; omega
        ·rw [hfg,List.take_of_length_le (by simp [hfs])]
       ·intro j hj
        rw [Array.length_toList]
        refine hr2 _ ?_
        rw [List.getD_eq_getElem?_getD,List.getElem?_eq_getElem (by omega)]
        exact List.getElem_mem _
       ·intro j hj
        have hz0:css.getD j ei.za=css.getD j []:=by
         have:j < css.length:=by rw [hcl,List.length_map,hln]; exact hj
         simp [List.getD,List.getElem?_eq_getElem this]
        show RelL _ false (css.getD j ei.za) _
        rw [hz0]
        exact hr1 j (by rw [List.length_map,hln]; exact hj)
       ·intro k hk
        cases hk
        exact .inr (Nat.le_refl _)
      ·rw [setHdr_other _ _ _ _ (by omega),hblk]
      ·have:(E'.setHdr id (.slice (some ⟨w.heap.size,0,none⟩) n n)).hdr j=E'.hdr j:=if_neg (by omega)
       rw [this,hhdr]
     ·cases he
    ·cases he
   ·cases he
  ·cases he
 ·cases he
def evMake (T:Tab) (t:TypeId) (l c:AV) (id:Nat):Option Eff :=
 match T.kind t,litI l,litI c with
 | some (.slice e),some l,some c =>
  match T e with
  | some ei=>if 0 < ei.size/\ei.bytes<=2147483648 then some ⟨l=c/\0<=l/\l<=65536,.vec id,[(id,some (.vec e ei.size l.toNat (fun _=>ei.za)))]⟩ else none
  | none=>none
 | _,_,_=>none
theorem madeCells_flat (z:Array Value) (n size:Nat) (hz:z.size=size) (hs:0 < size):(madeCells z (n * size)).toList=(List.range n).flatMap (fun _=>z.toList):=by
 apply List.ext_getElem?
 intro i
 have hfl:=flat_length (fun _=>z.toList) size n (fun _ _=>by simpa using hz)
 rcases Nat.lt_or_ge i (n * size) with h | h
 ·have hq:i / size < n:=by rw [Nat.div_lt_iff_lt_mul hs]; exact h
  have hr:i % size < size:=Nat.mod_lt _ hs
  have hi:i=i / size * size + i % size:=by rw [Nat.mul_comm]; exact (Nat.div_add_mod i size).symm
  have:=flat_get (fun _=>z.toList) size n (fun _ _=>by simpa using hz) (i / size) (i % size) hq hr
  rw [← hi] at this
  rw [this]
  simp only [madeCells,Array.toList_map,List.getElem?_map,Array.toList_range,List.getElem?_range h,Option.map_some,Array.getElem?_toList]
  rw [hz,Array.getElem?_eq_getElem (by omega)]
  congr 1
  exact getElem!_pos z (i % size) (by omega)
 ·rw [List.getElem?_eq_none (by simpa [madeCells] using h),List.getElem?_eq_none (by rw [hfl]; exact h)]
theorem evMake_sound (hT:Tab.ok C.P T) (h:HeapOK C E H w) (hf:E.blk id=none) (hf2:E.hdr id=none) {t:TypeId} {l c:Operand} (ho:o.op = .makeSlice t l c) {vl vc:AV} (hl:Rel E true vl (a.eval l)) (hc:Rel E true vc (a.eval c))
  {r:Eff} (he:evMake T t vl vc id=some r):Good C E H w a o id r:=by
 unfold evMake at he
 split at he
 ·rename_i e l' c' hk e1 e2
  have hu:C.P.underlying t=some (.slice e):=Tab.kind_ok hT hk
  have r1:=litI_rel e1 hl
  have r2:=litI_rel e2 hc
  split at he
  ·rename_i ei hei
   have hE:=hT _ _ hei
   split at he
   ·rename_i hcond
    cases he
    rintro ⟨rfl,h0,h1⟩
    obtain ⟨hpos,hby⟩:=hcond
    obtain ⟨i,z,hi,hs,hb,hz,hzs,hza⟩:=hE.info
    have hbb:ei.bytes * l'.toNat<=2147483648 * 65536:=Nat.mul_le_mul hby (by omega)
    have hbi:(i.bytes:Int) * l'<=281474976710656:=by
     rw [hb]
     have:((ei.bytes * l'.toNat:Nat):Int)<=281474976710656:=by omega
     rw [Int.natCast_mul,Int.toNat_of_nonneg h0] at this
     exact this
    have hrun:=run_make (P:=C.P) w t e i z hu hi hz .i64 .i64 l' l' h0 (Int.le_refl _) hbi (by omega)
    have hx:(execOp a.eval o).run C.P w = .ok (.value (.slice (some ⟨w.heap.size,0,none⟩) l'.toNat l'.toNat)) (w.alloc (.cells (madeCells z.cells (l'.toNat * i.size)) e)):=by
     simp [execOp,ho,r1,r2,hrun]
    have hfl:=madeCells_flat z.cells l'.toNat ei.size hzs hpos
    refine ⟨_,_,_,.inl hx,Env.le_setHdr hf hf2,?_,.vec id (setHdr_self _ _ _) rfl,fun j hj=>⟨setHdr_other _ _ _ _ (by omega),if_neg (by omega)⟩⟩
    refine h.newVec id hf hf2 none (World.grownBy_alloc w _ none) (fun k hk=>by cases hk) e ei.size l'.toNat _ _ (fun _=>z.cells.toList) ?_ (fun _ _=>by simpa using hzs) (fun _ _=>hza E false) ?_
    ·refine ⟨flat_length _ _ _ (fun _ _=>by simpa using hzs),.inr ⟨w.heap.size,l'.toNat,_,rfl,Nat.zero_le _,heap_alloc_new w _,Nat.le_refl _,by simp only [maxLen]; omega,by rw [size_madeCells,hs],?_⟩⟩
     rw [hs,hfl,List.take_of_length_le (by rw [flat_length _ ei.size _ (fun _ _=>by simpa using hzs)]; exact Nat.le_refl _)]
    ·intro k hk
     cases hk
     exact .inr (Nat.le_refl _)
   ·cases he
  ·cases he
 ·cases he
end
end Go.Ab
namespace Go.Ab
open Go Go.RowKit
section
variable {C:Ctx} {E:Env} {H:Heap} {w:World} {a:Act} {o:Oper} {id:Nat} {T:Tab}
def catF (n:Nat) (f g:Nat->List AV):Nat->List AV:=fun j=>if j < n then f j else g (j - n)
def srcOf (L:Nat->Option OB):AV->Option (Nat × Nat × (Nat->List AV))
 | .sl sz n f=>some (sz,n,f)
 | .slc sz n f=>some (sz,n,f)
 | .lit (.slice (some _) 0 _)=>some (1,0,fun _=>[])
 | .vec b =>
  match L b with
  | some (.vec _ sz n f)=>some (sz,n,f)
  | _=>none
 | _=>none
theorem srcOf_rel (h:HeapOK C E H w) {L:Nat->Option OB} (hL:∀ b ob,L b=some ob->H b=some ob) {v:AV} {sz n:Nat} {f:Nat->List AV} (hs:srcOf L v=some (sz,n,f)) {u:Value} (hr:Rel E true v u) :
  ∃ (ad:Option Addr) (cap:Nat) (g:Nat->List Value),u = .slice ad n cap/\(ad=none->n=0)/\(∀ i,i < n->(g i).length=sz)/\(∀ i,i < n->RelL E false (f i) (g i)) ∧
   ∀ x,ad=some x -> ∀ j y,((List.range n).flatMap g)[j]? = some y->w.cell? (x.add j)=some y:=by
 have sl:∀ (b off cap:Nat) (g:Nat->List Value),(∀ i,i < n->(g i).length=sz)->(∀ i k,i < n->k < sz->mcell E.M b (off + i * sz + k)=(g i)[k]?) →
   ∀ x,some (⟨b,off,none⟩:Addr)=some x -> ∀ j y,((List.range n).flatMap g)[j]? = some y->w.cell? (x.add j)=some y:=by
  intro b off cap g hg hm x hx j y hj
  cases hx
  have hlt:j < n * sz:=by rw [← flat_length g sz n hg]; exact (List.getElem?_eq_some_iff.1 hj).1
  have hsz:0 < sz:=by
   rcases Nat.eq_zero_or_pos sz with h0 | h0
   ·rw [h0] at hlt; omega
   ·exact h0
  have hq:j / sz < n:=by rw [Nat.div_lt_iff_lt_mul hsz]; exact hlt
  have hrm:j % sz < sz:=Nat.mod_lt _ hsz
  have hji:j=j / sz * sz + j % sz:=by rw [Nat.mul_comm]; exact (Nat.div_add_mod j sz).symm
  have:=flat_get g sz n hg _ _ hq hrm
  rw [← hji,hj] at this
  have hmm:=hm _ _ hq hrm
  rw [← this] at hmm
  rw [addr_add]
  have he:off + j / sz * sz + j % sz=off + j:=by omega
  rw [he] at hmm
  exact h.cell hmm
 unfold srcOf at hs
 split at hs
 ·cases hs
  cases hr with
  | slN=>exact ⟨none,0,fun _=>[],rfl,fun _=>rfl,fun i hi=>absurd hi (by omega),fun i hi=>absurd hi (by omega),fun x hx=>by cases hx⟩
  | slZ _ _ ad=>exact ⟨some ad,0,fun _=>[],rfl,fun _=>rfl,fun i hi=>absurd hi (by omega),fun i hi=>absurd hi (by omega),fun x hx j u hj=>by simp at hj⟩
  | slA _ _ _ b off cap g hn hc hg hm hf=>exact ⟨_,cap,g,rfl,(fun e=>by cases e),hg,hf,sl b off cap g hg hm⟩
 ·cases hs
  cases hr with
  | slcN=>exact ⟨none,0,fun _=>[],rfl,fun _=>rfl,fun i hi=>absurd hi (by omega),fun i hi=>absurd hi (by omega),fun x hx=>by cases hx⟩
  | slcZ _ _ ad=>exact ⟨some ad,0,fun _=>[],rfl,fun _=>rfl,fun i hi=>absurd hi (by omega),fun i hi=>absurd hi (by omega),fun x hx j u hj=>by simp at hj⟩
  | slcA _ _ _ b off g hc hg hm hf=>exact ⟨_,_,g,rfl,(fun e=>by cases e),hg,hf,sl b off n g hg hm⟩
 ·cases hs
  cases hr
  exact ⟨_,_,fun _=>[],rfl,fun _=>rfl,fun i hi=>absurd hi (by omega),fun i hi=>absurd hi (by omega),fun x hx j u hj=>by simp at hj⟩
 ·rename_i b
  split at hs
  ·rename_i ty sz' n' f' hLb
   cases hs
   obtain ⟨hd,g,hh,hown,hg,hf,_⟩:=h.own b _ (hL _ _ hLb)
   cases hr with
   | vec _ hh' _ =>
    rw [hh] at hh'
    cases hh'
    rcases ownsRow_form hown with ⟨hv,hn⟩ | ⟨k,cap,hv,hnc,hcm,us,hw,hul,htk⟩
    ·subst hv; subst hn
     exact ⟨none,0,g,rfl,fun _=>rfl,hg,hf,fun x hx=>by cases hx⟩
    ·subst hv
     refine ⟨_,cap,g,rfl,fun e=>(by cases e),hg,hf,fun x hx j y hj => ?_⟩
     cases hx
     exact hown.cells (g:=k) rfl j y hj
  ·cases hs
 ·cases hs
theorem run_append_none (base:Nat) {P:Program} (w:World) (t ty e:TypeId) (i:TypeInfo) (size:Nat) (ht:P.underlying t=some (.slice e)) (hi:P.info? e=some i)
  (v:Value) (n:Nat) (xs:List Value) (hown:w.ownsRow base e size v n xs) (c:Nat):(Builtin.append_ #[t,t] ty #[v,.slice none 0 c]).run P w = .ok v w:=by
 rcases hown.2 with ⟨rfl,rfl⟩ | ⟨g,cap,cur,rfl,_,_,hnc,_⟩
 ·simp [Builtin.append_,run_underlying ht,sizeOf,typeInfo,hi,Builtin.lenOf,Builtin.firstCells]
 ·simp [Builtin.append_,run_underlying ht,sizeOf,typeInfo,hi,Builtin.lenOf,Builtin.firstCells,hnc,storeCells]
theorem cat_flat (n m:Nat) (g k:Nat->List Value):(List.range (n + m)).flatMap (fun j=>if j < n then g j else k (j - n))=(List.range n).flatMap g ++ (List.range m).flatMap k:=by
 induction m with
 | zero =>
  simp only [Nat.add_zero,List.range_zero,List.flatMap_nil,List.append_nil]
  rw [List.flatMap_def,List.flatMap_def]
  congr 1
  exact List.map_congr_left fun j hj=>if_pos (List.mem_range.1 hj)
 | succ m ih =>
  rw [← Nat.add_assoc,List.range_succ,List.flatMap_append,ih,List.range_succ,List.flatMap_append,List.append_assoc]
  congr 2
  simp only [List.flatMap_cons,List.flatMap_nil,List.append_nil]
  rw [if_neg (by omega)]
  congr 1; omega
def isVecOf:AV->Nat->Bool
 | .vec c,b=>c == b
 | _,_=>false
def evAppend (T:Tab) (L:Nat->Option OB) (t:TypeId) (x y:AV) (id:Nat):Option Eff :=
 match T.kind t with
 | some (.slice e) =>
  match T e with
  | some ei =>
   if 0 < ei.size/\ei.bytes<=2147483648 then
    match x,srcOf L y with
    | .lit (.slice none 0 0),some (sz,m,g)=>if sz=ei.size then some ⟨m<=65536,.vec id,[(id,some (.vec e sz m g))]⟩ else none
    | .vec b,some (sz,m,g) =>
     match L b with
     | some (.vec e' sz' n f)=>if sz=ei.size/\sz'=ei.size/\e'=e/\isVecOf y b=false then some ⟨n + m<=65536,.vec id,[(b,none),(id,some (.vec e sz (n + m) (catF n f g)))]⟩ else none
     | _=>none
    | .slc sz' n f,some (sz,m,g)=>if sz=ei.size/\sz'=ei.size then some ⟨n + m<=65536/\0 < m,.vec id,[(id,some (.vec e sz (n + m) (catF n f g)))]⟩ else none
    | _,_=>none
   else none
  | none=>none
 | _=>none
theorem oneCell_ownsRow {e:TypeId} {sz n:Nat} {v:Value} {xs:List Value} (h:w.ownsRow 0 e sz v n xs):v.oneCell'=true:=by
 rcases ownsRow_form h with ⟨rfl,_⟩ | ⟨k,cap,rfl,_⟩ <;> rfl
theorem catF_rel {E:Env} {n m:Nat} {f g:Nat->List AV} {k l:Nat->List Value} (h1:∀ i,i < n->RelL E false (f i) (k i)) (h2:∀ i,i < m->RelL E false (g i) (l i)) :
  ∀ i,i < n + m->RelL E false (catF n f g i) (if i < n then k i else l (i - n)):=by
 intro i hi
 unfold catF
 split
 ·exact h1 i ‹_›
 ·exact h2 _ (by omega)
theorem cat_len {n m sz:Nat} {k l:Nat->List Value} (h1:∀ i,i < n->(k i).length=sz) (h2:∀ i,i < m->(l i).length=sz):∀ i,i < n + m->(if i < n then k i else l (i - n)).length=sz:=by
 intro i hi
 split
 ·exact h1 i ‹_›
 ·exact h2 _ (by omega)
theorem append_core (hT:Tab.ok C.P T) {t e:TypeId} {ei:TI} (hu:C.P.underlying t=some (.slice e)) (hei:T e=some ei) (hpos:0 < ei.size) (hby:ei.bytes<=2147483648) {n m:Nat} {hd:Value} {xs:List Value} (hown:w.ownsRow 0 e ei.size hd n xs)
  {ad:Option Addr} {cap:Nat} {l:Nat->List Value} (hn:ad=none->m=0) (hl:∀ i,i < m->(l i).length=ei.size) (h1:∀ i,i < m -> ∀ u ∈ l i,u.oneCell'=true)
  (hc:∀ x,ad=some x -> ∀ j y,((List.range m).flatMap l)[j]? = some y->w.cell? (x.add j)=some y) (hq:n + m<=65536) (ty:TypeId) :
  ∃ v' w',(Builtin.append_ #[t,t] ty #[hd,.slice ad m cap]).run C.P w = .ok v' w'/\w'.ownsRow 0 e ei.size v' (n + m) (xs ++ (List.range m).flatMap l)/\w.grownBy w' hd.ownBlock ∧
   (∀ k,v'.ownBlock=some k->hd.ownBlock=some k ∨ w.heap.size<=k):=by
 obtain ⟨i,z,hi,hs,hb,hz,hzs,_⟩:=(hT _ _ hei).info
 cases ad with
 | none =>
  have hm:=hn rfl
  subst hm
  exact ⟨hd,w,run_append_none 0 w t ty e i ei.size hu hi hd n xs hown cap,by simpa using hown,World.grownBy.refl w _,fun k hk => .inl hk⟩
 | some x =>
  have hlen:=flat_length l ei.size m hl
  have h1':∀ u ∈ (List.range m).flatMap l,u.oneCell'=true:=by
   intro u hu
   obtain ⟨j,hj,hu⟩:=List.mem_flatMap.1 hu
   exact h1 j (List.mem_range.1 hj) u hu
  have hbb:(n + m) * ei.bytes<=140737488355328:=by
   have:(n + m) * ei.bytes<=65536 * 2147483648:=Nat.mul_le_mul hq hby
   omega
  obtain ⟨v',w',hr,ho,hg,_,hbk⟩:=run_append_own_at w 0 t ty e i z ei.size ei.bytes hu hi hz hs hb hzs hpos hd n xs hown x m cap _ hlen (hc x rfl) h1' (by simp only [maxLen]; omega) hbb (Nat.zero_le _)
  refine ⟨v',w',hr,ho,hg,fun k hk => ?_⟩
  rcases hbk with hbk | hbk
  ·exact .inl (by rw [← hbk]; exact hk)
  ·rw [hbk] at hk; cases hk; exact .inr (Nat.le_refl _)
theorem evAppend_sound (hT:Tab.ok C.P T) (h:HeapOK C E H w) (hf:E.blk id=none) (hf2:E.hdr id=none) {x y:Operand} {t:TypeId} (ho:o.op = .call { callee := .builtin .append,args := #[x,y],argTypes := #[t,t] })
  {vx vy:AV} (hx:Rel E true vx (a.eval x)) (hy:Rel E true vy (a.eval y)) {L:Nat->Option OB} (hL:∀ b ob,L b=some ob->H b=some ob) {r:Eff} (he:evAppend T L t vx vy id=some r):Good C E H w a o id r:=by
 unfold evAppend at he
 split at he
 ·rename_i e hk
  have hu:C.P.underlying t=some (.slice e):=Tab.kind_ok hT hk
  split at he
  ·rename_i ei hei
   split at he
   ·rename_i hcond
    obtain ⟨hpos,hby⟩:=hcond
    -- from a run of the builtin to the operation's
    have hexec:∀ (v':Value) (w':World),(Builtin.append_ #[t,t] o.type #[a.eval x,a.eval y]).run C.P w = .ok v' w'->(execOp a.eval o).run C.P w = .ok (.value v') w':=by
     intro v' w' hr
     simp [execOp,ho,resolve,invoke,builtin,hr]
    split at he
    ·rename_i sz m g hs
     split at he
     ·rename_i hsz
      subst hsz
      cases he
      intro hq
      obtain ⟨ad,cap,l,hyy,hn,hl,hrl,hc⟩:=srcOf_rel h hL hs hy
      have hxx:a.eval x = .slice none 0 0:=by generalize a.eval x=z at hx; cases hx; rfl
      obtain ⟨v',w',hr,how,hg,hbk⟩:=append_core hT hu hei hpos hby (World.ownsRow_nil w 0 e ei.size) hn hl (fun i hi=>(hrl i hi).oneCell) hc (by omega) o.type
      refine ⟨v',w',_,.inl (hexec v' w' (by rw [hxx,hyy]; exact hr)),Env.le_setHdr hf hf2,?_,.vec id (setHdr_self _ _ _) (oneCell_ownsRow how),fun j hj=>⟨setHdr_other _ _ _ _ (by omega),if_neg (by omega)⟩⟩
      refine h.newVec id hf hf2 none hg (fun k hk=>by cases hk) e _ m _ v' l (by simpa using how) hl hrl (fun k hk => ?_)
      rcases hbk k hk with hb | hb
      ·cases hb
      ·exact .inr hb
     ·cases he
    ·rename_i b sz m g hs
     split at he
     ·rename_i e' sz' n f hLb
      split at he
      ·rename_i hc0
       obtain ⟨rfl,rfl,rfl,_⟩:=hc0
       cases he
       intro hq
       obtain ⟨ad,cap,l,hyy,hn,hl,hrl,hc⟩:=srcOf_rel h hL hs hy
       obtain ⟨hd,k,hh,hown,hkl,hkr,hbk0,hav⟩:=h.own b _ (hL _ _ hLb)
       have hxx:a.eval x=hd:=by
        generalize a.eval x=z at hx
        cases hx with
        | vec _ hh' _=>rw [hh] at hh'; cases hh'; rfl
       obtain ⟨v',w',hr,how,hg,hbk⟩:=append_core hT hu hei hpos hby hown hn hl (fun i hi=>(hrl i hi).oneCell) hc hq o.type
       refine ⟨v',w',_,.inl (hexec v' w' (by rw [hxx,hyy]; exact hr)),Env.le_setHdr hf hf2,?_,.vec id (setHdr_self _ _ _) (oneCell_ownsRow how),fun j hj=>⟨setHdr_other _ _ _ _ (by omega),if_neg (by omega)⟩⟩
       have hdrop:HeapOK C E (H.put b none) w:=h.drop (fun i ob hi=>by
        unfold Heap.put at hi
        split at hi
        ·cases hi
        ·exact hi)
       refine hdrop.newVec id hf hf2 hd.ownBlock hg (fun j hj=>⟨(hav j hj).1,(hav j hj).2,fun c hcH hcb => ?_⟩) e' _ (n + m) _ v' (fun j=>if j < n then k j else l (j - n)) (by rw [cat_flat]; exact how) (cat_len hkl hl) (catF_rel hkr hrl) hbk
       have hne:c ≠ b:=fun ec=>hcH (by rw [ec]; exact if_pos rfl)
       have hcH':H c ≠ none:=by
        have:(H.put b none) c=H c:=if_neg hne
        rw [this] at hcH; exact hcH
       exact h.sep c b j hne hcH' (by rw [hL _ _ hLb]; simp) hcb (by rw [hbk0]; exact hj)
      ·cases he
     ·cases he
    ·rename_i sz' n f sz m g hs
     split at he
     ·rename_i hsz
      obtain ⟨rfl,rfl⟩:=hsz
      cases he
      rintro ⟨hq,hm0⟩
      obtain ⟨ad,cap,l,hyy,hn,hl,hrl,hc⟩:=srcOf_rel h hL hs hy
      generalize hxx:a.eval x=z at hx
      cases hx with
      | slcN =>
       obtain ⟨v',w',hr,how,hg,hbk⟩:=append_core hT hu hei hpos hby (World.ownsRow_nil w 0 e ei.size) hn hl (fun i hi=>(hrl i hi).oneCell) hc (by omega) o.type
       refine ⟨v',w',_,.inl (hexec v' w' (by rw [hxx,hyy]; exact hr)),Env.le_setHdr hf hf2,?_,.vec id (setHdr_self _ _ _) (oneCell_ownsRow how),fun j hj=>⟨setHdr_other _ _ _ _ (by omega),if_neg (by omega)⟩⟩
       refine h.newVec id hf hf2 none hg (fun k hk=>by cases hk) e _ (0 + m) _ v' (fun j=>if j < 0 then l j else l (j - 0)) (by rw [cat_flat]; simpa using how) (cat_len (fun i hi=>absurd hi (by omega)) hl) (catF_rel (fun i hi=>absurd hi (by omega)) hrl) (fun k hk => ?_)
       rcases hbk k hk with hb | hb
       ·cases hb
       ·exact .inr hb
      | slcA _ _ _ b off k hcm hkl hm hkr =>
       cases ad with
       | none=>have:=hn rfl; omega
       | some x' =>
        obtain ⟨i,zz,hi,hs',hb,hz,hzs,_⟩:=(hT _ _ hei).info
        have hlen:=flat_length l ei.size m hl
        have hbb:(n + m) * ei.bytes<=140737488355328:=by
         have:(n + m) * ei.bytes<=65536 * 2147483648:=Nat.mul_le_mul hq hby
         omega
        have hold:∀ j u,((List.range n).flatMap k)[j]? = some u->w.cell? ((⟨b,off,none⟩:Addr).add j)=some u:=by
         intro j y hj
         have hlt:j < n * ei.size:=by rw [← flat_length k ei.size n hkl]; exact (List.getElem?_eq_some_iff.1 hj).1
         have hqd:j / ei.size < n:=by rw [Nat.div_lt_iff_lt_mul hpos]; exact hlt
         have hrm:j % ei.size < ei.size:=Nat.mod_lt _ hpos
         have hji:j=j / ei.size * ei.size + j % ei.size:=by rw [Nat.mul_comm]; exact (Nat.div_add_mod j ei.size).symm
         have:=flat_get k ei.size n hkl _ _ hqd hrm
         rw [← hji,hj] at this
         have hmm:=hm _ _ hqd hrm
         rw [← this] at hmm
         rw [addr_add]
         have he':off + j / ei.size * ei.size + j % ei.size=off + j:=by omega
         rw [he'] at hmm
         exact h.cell hmm
        obtain ⟨v',w',hr,how,hg⟩:=run_append_arg_grows w t o.type e i zz ei.size ei.bytes hu hi hz hs' hb hzs hpos ⟨b,off,none⟩ n n _ (flat_length k ei.size n hkl) hold x' m cap _ hlen (hc x' rfl) (by omega) (by simp only [maxLen]; omega) hbb
        refine ⟨v',w',_,.inl (hexec v' w' (by rw [hxx,hyy]; exact hr)),Env.le_setHdr hf hf2,?_,.vec id (setHdr_self _ _ _) ?_,fun j hj=>⟨setHdr_other _ _ _ _ (by omega),if_neg (by omega)⟩⟩
        ·have how0:w'.ownsRow 0 e ei.size v' (n + m) ((List.range n).flatMap k ++ (List.range m).flatMap l):=by
          refine ⟨how.1,?_⟩
          rcases how.2 with h0 | ⟨g0,c0,cu0,h1,h2,h3⟩
          ·exact .inl h0
          ·exact .inr ⟨g0,c0,cu0,h1,Nat.zero_le _,h3⟩
         refine h.newVec id hf hf2 none hg (fun k hk=>by cases hk) e _ (n + m) _ v' (fun j=>if j < n then k j else l (j - n)) (by rw [cat_flat]; exact how0) (cat_len hkl hl) (catF_rel hkr hrl) (fun k' hk' => .inr (how.lt k' hk').1)
        ·rcases how.2 with ⟨rfl,_⟩ | ⟨g0,c0,cu0,rfl,_⟩ <;> rfl
      | slcZ _ _ ad0 =>
       have hkl:∀ i,i < 0->((fun _=>[]:Nat->List Value) i).length=ei.size:=fun i hi=>absurd hi (by omega)
       have hkr:∀ i,i < 0->RelL E false (f i) ((fun _=>[]:Nat->List Value) i):=fun i hi=>absurd hi (by omega)
       cases ad with
       | none=>have:=hn rfl; omega
       | some x' =>
        obtain ⟨i,zz,hi,hs',hb,hz,hzs,_⟩:=(hT _ _ hei).info
        have hlen:=flat_length l ei.size m hl
        have hbb:(0 + m) * ei.bytes<=140737488355328:=by
         have:(0 + m) * ei.bytes<=65536 * 2147483648:=Nat.mul_le_mul hq hby
         omega
        have hold:∀ j u,((List.range 0).flatMap (fun _=>[]:Nat->List Value))[j]? = some u->w.cell? (ad0.add j)=some u:=fun j u hj=>by simp at hj
        obtain ⟨v',w',hr,how,hg⟩:=run_append_arg_grows w t o.type e i zz ei.size ei.bytes hu hi hz hs' hb hzs hpos ad0 0 0 _ (flat_length (fun _=>[]:Nat->List Value) ei.size 0 hkl) hold x' m cap _ hlen (hc x' rfl) (by omega) (by simp only [maxLen]; omega) hbb
        refine ⟨v',w',_,.inl (hexec v' w' (by rw [hxx,hyy]; exact hr)),Env.le_setHdr hf hf2,?_,.vec id (setHdr_self _ _ _) ?_,fun j hj=>⟨setHdr_other _ _ _ _ (by omega),if_neg (by omega)⟩⟩
        ·have how0:w'.ownsRow 0 e ei.size v' (0 + m) ((List.range 0).flatMap (fun _=>[]:Nat->List Value) ++ (List.range m).flatMap l):=by
          refine ⟨how.1,?_⟩
          rcases how.2 with h0 | ⟨g0,c0,cu0,h1,h2,h3⟩
          ·exact .inl h0
          ·exact .inr ⟨g0,c0,cu0,h1,Nat.zero_le _,h3⟩
         refine h.newVec id hf hf2 none hg (fun k hk=>by cases hk) e _ (0 + m) _ v' (fun j=>if j < 0 then (fun _=>[]:Nat->List Value) j else l (j - 0)) (by rw [cat_flat]; exact how0) (cat_len hkl hl) (catF_rel hkr hrl) (fun k' hk' => .inr (how.lt k' hk').1)
        ·rcases how.2 with ⟨rfl,_⟩ | ⟨g0,c0,cu0,rfl,_⟩ <;> rfl
     ·cases he
    ·cases he
   ·cases he
  ·cases he
 ·cases he
end
end Go.Ab
namespace Go.Ab
open Go Go.RowKit
mutual
def noFn:AV->Bool
 | .fn _=>false
 | .agg cs=>noFnL cs
 | .tup cs=>noFnL cs
 | .clo _ cs=>noFnL cs
 | .cnd _ v=>noFn v
 | _=>true
def noFnL:List AV->Bool
 | []=>true
 | c :: cs=>noFn c && noFnL cs
end
theorem noFnL_get:∀ {cs:List AV},noFnL cs=true -> ∀ k,noFn (cs.getD k .any)=true:=by
 intro cs
 induction cs with
 | nil=>intro _ k; simp [noFn]
 | cons c cs ih =>
  intro h k
  simp only [noFnL,Bool.and_eq_true] at h
  cases k with
  | zero=>simpa using h.1
  | succ k=>simpa using ih h.2 k
def Env.setFns (E:Env) (F:Nat->Value->Prop):Env:={ E with fns:=F }
theorem Rel.setFns {E:Env} (F:Nat->Value->Prop):∀ {o:Bool} {av:AV} {u:Value},Rel E o av u->(o=true->noFn av=true)->Rel (E.setFns F) o av u:=by
 intro o av u h
 refine Rel.rec (motive_1:=fun o av u _=>(o=true->noFn av=true)->Rel (E.setFns F) o av u) (motive_2:=fun o cs us _=>(o=true->noFnL cs=true)->RelL (E.setFns F) o cs us) ?_ ?_ ?_ ?_ ?_ ?_ ?_ ?_ ?_ ?_ ?_ ?_ ?_ ?_ ?_ ?_ ?_ ?_ ?_ ?_ ?_ ?_ ?_ ?_ ?_ ?_ ?_ ?_ h
 ·intro o u _; exact .any u
 ·intro o u _; exact .lit u
 ·intro o cs us _ ih hn; exact .agg (ih (fun e=>by simpa [noFn] using hn e))
 ·intro o cs us hl _ ih hn; exact .tup hl fun k=>ih k (fun e=>noFnL_get (by simpa [noFn] using hn e) k)
 ·intro o sz f _; exact .slN sz f
 ·intro o sz n f b off cap g hn hc hg hm _ ih _
  exact .slA sz n f b off cap g hn hc hg hm (fun i hi=>ih i hi (fun e=>by cases e))
 ·intro o sz f a _; exact .slZ sz f a
 ·intro o sz f _; exact .slcN sz f
 ·intro o sz n f b off g hc hg hm _ ih _
  exact .slcA sz n f b off g hc hg hm (fun i hi=>ih i hi (fun e=>by cases e))
 ·intro o sz f a _; exact .slcZ sz f a
 ·intro o cs us b off hm _ ih _; exact .rp b off hm (ih (fun e=>by cases e))
 ·intro o f cs us b off hm _ ih _; exact .mth b off hm (ih (fun e=>by cases e))
 ·intro o f cs us _ ih _; exact .mtv (ih (fun e=>by cases e))
 ·intro o g cs h _; exact .optN cs h
 ·intro o g cs us b off hg hm _ ih _; exact .optS b off hg hm (ih (fun e=>by cases e))
 ·intro o g sz n f h _; exact .oslN sz n f h
 ·intro o g sz n f a k c hg _ ih _; exact .oslS a k c hg (ih (fun _=>by simp [noFn]))
 ·intro o P kt et q es b a c hM hw _; exact .mz b a c hM hw
 ·intro k b p h _; exact .ptr b p h
 ·intro u b h h1 _; exact .vec b h h1
 ·intro k n c b i sz p h _; exact .vp b i sz p h
 ·intro k cap b p sz n h hn _; exact .win b p sz n h hn
 ·intro u k h hn; exact absurd (hn rfl) (by simp [noFn])
 ·intro o caps us f hl _ ih hn; exact .clo f hl fun k=>ih k (fun e=>noFnL_get (by simpa [noFn] using hn e) k)
 ·intro o g v u _ h2 ih hn; exact .cnd (fun e=>ih e (fun e=>by simpa [noFn] using hn e)) h2
 ·intro o _; exact .nil
 ·intro o v u cs us _ h1 _ ih ihs hn
  exact .cons (ih (fun e=>by have:=hn e; simp only [noFnL,Bool.and_eq_true] at this; exact this.1)) h1 (ihs (fun e=>by have:=hn e; simp only [noFnL,Bool.and_eq_true] at this; exact this.2))
 ·intro o sz n f cs us g hg _ _ ih ihs hn
  exact .arr g hg (fun i hi=>ih i hi (fun e=>by cases e)) (ihs (fun e=>by have:=hn e; simp only [noFnL,Bool.and_eq_true] at this; exact this.2))
theorem RelL.setFns {E:Env} (F:Nat->Value->Prop):∀ {o:Bool} {cs:List AV} {us:List Value},RelL E o cs us->(o=true->noFnL cs=true)->RelL (E.setFns F) o cs us:=by
 intro o cs us h hn
 have:=Rel.setFns F (Rel.agg h) (fun e=>by simpa [noFn] using hn e)
 generalize hz:us.toArray=z at this
 cases this with
 | agg h' =>
  rename_i us'
  have:us=us':=by simpa using hz
  rw [this]; exact h'
def Heap.of (l:List (Nat × OB)):Heap:=fun i=>(l.find? (fun p=>p.1 == i)).map (·.2)
def calleeCtx (P:Program) (E:Env) (w:World) (hin:List (Nat × OB)):Ctx where
 P:=P
 w0:=w
 E0:=E
 avail:=fun b=>w.heap.size<=b ∨ ∃ q ∈ hin,E.blk q.1=some b
 hA:=fun _ h => .inl h
structure CallSpec where
 args:List AV
 pre:Prop:=True
 fnok:Env->Prop:=fun _=>True
 hin:List (Nat × OB):=[]
 res:AV
 hout:List (Nat × OB):=[]
 eqv:List Bool:=[]
def CallSpec.raw (s:CallSpec):CallSpec:={ s with eqv:=[] }
def CallSpec.eq (s:CallSpec) (m:List Bool):CallSpec:={ s with eqv:=m }
def CallPost (P:Program) (s:CallSpec) (E:Env) (w:World) (e:Ending) (w':World):Prop :=
 ∃ v E',e = .returned v/\HeapOK (calleeCtx P E w s.hin) E' (Heap.of s.hout) w'/\Rel E' true s.res v /\ ∀ j,(∀ p ∈ s.hout,p.1 ≠ j)->E'.blk j=E.blk j/\E'.hdr j=E.hdr j
def Callable (P:Program) (f:FuncId):Prop := ∀ (args:Array Value) (w:World),(callFunc f args).run P w = .ok (.enter f args) w
def Triple (P:Program) (f:FuncId) (s:CallSpec):Prop :=
 Callable P f/\(s.pre -> ∀ (E:Env) (w:World) (vs:List Value),s.fnok E->HeapOK (calleeCtx P E w s.hin) E (Heap.of s.hin) w->vs.length=s.args.length->(∀ k,Rel E true (s.args.getD k .any) (vs.getD k undef)) →
  (∀ p ∈ s.hout,(∀ q ∈ s.hin,q.1 ≠ p.1)->E.blk p.1=none/\E.hdr p.1=none)->Calls P f vs.toArray w (CallPost P s E w))
def FnOK (P:Program) (E:Env) (u:Value) (A:List AV) (R:AV):Prop :=
 ∃ f caps,u = .func (.func f) #[] (List.toArray caps)/\Callable P f /\ ∀ (E2:Env) (w:World) (vs:List Value),(∀ b o,E.M b=some o->E2.M b=some o)->(∀ b o,E2.M b=some o->w.heap[b]? = some o)->vs.length=A.length->(∀ k,Rel E2 true (A.getD k .any) (vs.getD k undef)) →
  Calls P f (vs ++ caps).toArray w (CallPost P { args:=A,res:=R } E2 w)
def coe1 (L:Nat->Option OB):AV->AV->Prop × List Nat
 | .vec b,.sl sz n f =>
  match L b with
  | some (.vec _ sz' n' f')=>(sz'=sz/\n'=n /\ ∀ i,i < n->f' i=f i,[b])
  | _=>(False,[])
 | .sl sz' n' f',.sl sz n f=>(sz'=sz/\n'=n /\ ∀ i,i < n->f' i=f i,[])
 | .slc sz' n' f',.sl sz n f=>(sz'=sz/\n'=n /\ ∀ i,i < n->f' i=f i,[])
 | .lit (.slice none 0 0),.sl _ n _=>(n=0,[])
 | .opt g cs,.rp ds=>(g=true/\cs=ds,[])
 | .osl g sz' n' f',.sl sz n f=>(g=true/\sz'=sz/\n'=n /\ ∀ i,i < n->f' i=f i,[])
 | v,t=>(v=t,[])
def coeL (L:Nat->Option OB):List AV->List AV->Prop × List Nat
 | [],[]=>(True,[])
 | v :: vs,t :: ts=>((coe1 L v t).1/\(coeL L vs ts).1,(coe1 L v t).2 ++ (coeL L vs ts).2)
 | _,_=>(False,[])
def coeA (L:Nat->Option OB):AV->AV->Prop × List Nat
 | .agg cs,.agg ds=>coeL L cs ds
 | .clo _ _,.fn _=>(True,[])
 | .fn _,.fn _=>(True,[])
 | v,t=>coe1 L v t
def coeAs (L:Nat->Option OB):List AV->List AV->Prop × List Nat
 | [],[]=>(True,[])
 | v :: vs,t :: ts=>((coeA L v t).1/\(coeAs L vs ts).1,(coeA L v t).2 ++ (coeAs L vs ts).2)
 | _,_=>(False,[])
def coeM (L:Nat->Option OB):List Bool->List AV->List AV->Prop
 | _,[],[]=>True
 | m,v :: vs,t :: ts=>(if m.headD false=true then v=t else (coeA L v t).1)/\coeM L m.tail vs ts
 | _,_,_=>False
theorem coe1_refl (L:Nat->Option OB) (v:AV):(coe1 L v v).1:=by
 cases v <;> simp [coe1]
theorem coeL_refl (L:Nat->Option OB):∀ (vs:List AV),(coeL L vs vs).1:=by
 intro vs
 induction vs with
 | nil=>trivial
 | cons v vs ih=>exact ⟨coe1_refl L v,ih⟩
theorem coeA_refl (L:Nat->Option OB) (v:AV):(coeA L v v).1:=by
 cases v <;> first | exact coeL_refl L _ | exact coe1_refl L _ | trivial
theorem coeM_as {L:Nat->Option OB}:∀ {vs ts:List AV} {m:List Bool},coeM L m vs ts->(coeAs L vs ts).1:=by
 intro vs
 induction vs with
 | nil=>intro ts m h; cases ts with | nil=>trivial | cons=>exact h.elim
 | cons v vs ih =>
  intro ts m h
  cases ts with
  | nil=>exact h.elim
  | cons t ts =>
   obtain ⟨h1,h2⟩:=h
   refine ⟨?_,ih h2⟩
   split at h1
   ·rw [h1]; exact coeA_refl L t
   ·exact h1
section
variable {C:Ctx} {E:Env} {H:Heap} {w:World}
theorem sl_congr {o:Bool} {sz n:Nat} {f g:Nat->List AV} {u:Value} (h:Rel E o (.sl sz n f) u) (he:∀ i,i < n->f i=g i):Rel E o (.sl sz n g) u:=by
 cases h with
 | slN=>exact .slN _ _
 | slZ=>exact .slZ _ _ _
 | slA _ _ _ b off cap k hn hc hg hm hf=>exact .slA sz n g b off cap k hn hc hg hm (fun i hi=>by rw [← he i hi]; exact hf i hi)
theorem coe1_ids' {L:Nat->Option OB} {v t:AV} {p:Prop × List Nat} (hp:coe1 L v t=p) (h:p.1):∀ b ∈ p.2,∃ t sz n f,L b=some (.vec t sz n f):=by
 intro b hb
 unfold coe1 at hp
 split at hp
 ·split at hp
  ·rename_i hL
   rw [← hp] at hb
   simp only [List.mem_singleton] at hb
   rw [hb]
   exact ⟨_,_,_,_,hL⟩
  ·rw [← hp] at h; exact h.elim
 all_goals (rw [← hp] at hb; cases hb)
theorem coe1_ids {L:Nat->Option OB} {v t:AV} (h:(coe1 L v t).1):∀ b ∈ (coe1 L v t).2,∃ t sz n f,L b=some (.vec t sz n f):=coe1_ids' rfl h
theorem coe1_rel' {L:Nat->Option OB} {E':Env} (le:E.le E') {v t:AV} {u:Value} {p:Prop × List Nat} (hp:coe1 L v t=p) (h:p.1) (hv:∀ b ∈ p.2,∀ t sz n f,L b=some (.vec t sz n f) -> ∀ hd,E.hdr b=some hd -> ∀ ob,Rel E' ob (.sl sz n f) hd)
  (hr:Rel E true v u):Rel E' true t u:=by
 unfold coe1 at hp
 split at hp
 ·split at hp
  ·rename_i b sz n f _ ty sz' n' f' hL
   rw [← hp] at h hv
   obtain ⟨rfl,rfl,he⟩:=h
   cases hr with
   | vec _ hh _=>exact sl_congr (hv b (by simp) ty _ _ f' hL u hh true) he
  ·rw [← hp] at h; exact h.elim
 ·rw [← hp] at h
  obtain ⟨rfl,rfl,he⟩:=h
  exact sl_congr (hr.mono le) he
 ·rw [← hp] at h
  obtain ⟨rfl,rfl,he⟩:=h
  refine sl_congr (E:=E') ?_ he
  have:=hr.mono le
  cases this with
  | slcN=>exact .slN _ _
  | slcZ=>exact .slZ _ _ _
  | slcA _ _ _ b off g hc hg hm h=>exact .slA _ _ _ b off _ g (Nat.le_refl _) hc hg hm h
 ·rw [← hp] at h
  replace h:_=0:=h
  subst h
  cases hr
  exact .slN _ _
 ·rw [← hp] at h
  obtain ⟨hg,rfl⟩:=h
  cases hr.mono le with
  | optN _ h=>exact absurd (h.symm.trans hg) (by simp)
  | optS b off _ hm h=>exact .rp b off hm h
 ·rw [← hp] at h
  obtain ⟨hg,rfl,rfl,he⟩:=h
  cases hr.mono le with
  | oslN _ _ _ h=>exact absurd (h.symm.trans hg) (by simp)
  | oslS a k c _ h=>exact sl_congr h he
 ·rw [← hp] at h
  rw [← show v=t from h]
  exact hr.mono le
theorem coe1_rel {L:Nat->Option OB} {E':Env} (le:E.le E') {v t:AV} {u:Value} (h:(coe1 L v t).1) (hv:∀ b ∈ (coe1 L v t).2,∀ t sz n f,L b=some (.vec t sz n f) -> ∀ hd,E.hdr b=some hd -> ∀ ob,Rel E' ob (.sl sz n f) hd)
  (hr:Rel E true v u):Rel E' true t u:=coe1_rel' le rfl h hv hr
theorem coe1_arr {L:Nat->Option OB} {sz n:Nat} {f:Nat->List AV} {t:AV} (h:(coe1 L (.arr sz n f) t).1):t = .arr sz n f:=by
 unfold coe1 at h
 split at h <;> first | (rename_i e _; cases e; done) | (rename_i e; cases e; done) | exact h.symm
theorem coeL_rel {L:Nat->Option OB} {E':Env} (le:E.le E'):∀ {vs ts:List AV} {us:List Value},(coeL L vs ts).1->(∀ b ∈ (coeL L vs ts).2,∀ t sz n f,L b=some (.vec t sz n f) -> ∀ hd,E.hdr b=some hd -> ∀ ob,Rel E' ob (.sl sz n f) hd) →
  RelL E true vs us->RelL E' true ts us:=by
 intro vs
 induction vs with
 | nil =>
  intro ts us h _ hr
  cases ts with
  | nil=>cases hr; exact .nil
  | cons=>exact h.elim
 | cons v vs ih =>
  intro ts us h hv hr
  cases ts with
  | nil=>exact h.elim
  | cons t ts =>
   simp only [coeL] at h hv
   cases hr with
   | cons h0 h1 hs=>exact .cons (coe1_rel le h.1 (fun b hb=>hv b (List.mem_append_left _ hb)) h0) h1 (ih h.2 (fun b hb=>hv b (List.mem_append_right _ hb)) hs)
   | arr g hg h0 hs =>
    rw [coe1_arr h.1]
    exact .arr g hg (fun i hi=>(h0 i hi).mono le) (ih h.2 (fun b hb=>hv b (List.mem_append_right _ hb)) hs)
theorem coeL_ids {L:Nat->Option OB}:∀ {vs ts:List AV},(coeL L vs ts).1 -> ∀ b ∈ (coeL L vs ts).2,∃ t sz n f,L b=some (.vec t sz n f):=by
 intro vs
 induction vs with
 | nil=>intro ts h b hb; cases ts <;> cases hb
 | cons v vs ih =>
  intro ts h b hb
  cases ts with
  | nil=>exact h.elim
  | cons t ts =>
   simp only [coeL] at h hb
   rcases List.mem_append.1 hb with hb | hb
   ·exact coe1_ids h.1 b hb
   ·exact ih h.2 b hb
def isFn:AV->Bool
 | .fn _=>true
 | _=>false
theorem coeA_ids' {L:Nat->Option OB} {v t:AV} {p:Prop × List Nat} (hp:coeA L v t=p) (h:p.1):∀ b ∈ p.2,∃ t sz n f,L b=some (.vec t sz n f):=by
 intro b hb
 unfold coeA at hp
 split at hp
 ·rw [← hp] at h hb; exact coeL_ids h b hb
 ·rw [← hp] at hb; cases hb
 ·rw [← hp] at hb; cases hb
 ·rw [← hp] at h hb; exact coe1_ids h b hb
theorem coeA_ids {L:Nat->Option OB} {v t:AV} (h:(coeA L v t).1):∀ b ∈ (coeA L v t).2,∃ t sz n f,L b=some (.vec t sz n f):=coeA_ids' rfl h
theorem coeA_rel {L:Nat->Option OB} {E':Env} (le:E.le E') {v t:AV} {u:Value} (hf:isFn t=false) (h:(coeA L v t).1) (hv:∀ b ∈ (coeA L v t).2,∀ t sz n f,L b=some (.vec t sz n f) -> ∀ hd,E.hdr b=some hd -> ∀ ob,Rel E' ob (.sl sz n f) hd)
  (hr:Rel E true v u):Rel E' true t u:=by
 generalize hp:coeA L v t=p at h hv
 unfold coeA at hp
 split at hp
 ·rw [← hp] at h hv
  cases hr with
  | agg hl=>exact .agg (coeL_rel le h hv hl)
 ·cases hf
 ·cases hf
 ·rw [← hp] at h hv; exact coe1_rel le h hv hr
theorem coeAs_len {L:Nat->Option OB}:∀ {vs ts:List AV},(coeAs L vs ts).1->vs.length=ts.length:=by
 intro vs
 induction vs with
 | nil=>intro ts h; cases ts with | nil=>rfl | cons=>exact h.elim
 | cons v vs ih=>intro ts h; cases ts with | nil=>exact h.elim | cons t ts=>simp [ih h.2]
theorem coeAs_get {L:Nat->Option OB}:∀ {vs ts:List AV},(coeAs L vs ts).1 -> ∀ k,k < vs.length->(coeA L (vs.getD k .any) (ts.getD k .any)).1 /\ ∀ b ∈ (coeA L (vs.getD k .any) (ts.getD k .any)).2,b ∈ (coeAs L vs ts).2:=by
 intro vs
 induction vs with
 | nil=>intro ts h k hk; exact absurd hk (by simp)
 | cons v vs ih =>
  intro ts h k hk
  cases ts with
  | nil=>exact h.elim
  | cons t ts =>
   cases k with
   | zero=>exact ⟨h.1,fun b hb=>List.mem_append_left _ hb⟩
   | succ k =>
    obtain ⟨h1,h2⟩:=ih h.2 k (by simpa using hk)
    exact ⟨by simpa using h1,fun b hb=>List.mem_append_right _ (h2 b (by simpa using hb))⟩
theorem coeAs_ids {L:Nat->Option OB}:∀ {vs ts:List AV},(coeAs L vs ts).1 -> ∀ b ∈ (coeAs L vs ts).2,∃ t sz n f,L b=some (.vec t sz n f):=by
 intro vs
 induction vs with
 | nil=>intro ts h b hb; cases ts <;> cases hb
 | cons v vs ih =>
  intro ts h b hb
  cases ts with
  | nil=>exact h.elim
  | cons t ts =>
   simp only [coeAs] at h hb
   rcases List.mem_append.1 hb with hb | hb
   ·exact coeA_ids h.1 b hb
   ·exact ih h.2 b hb
end
end Go.Ab
namespace Go.Ab
open Go Go.RowKit
section
variable {C:Ctx} {E:Env} {H:Heap} {w:World} {a:Act} {o:Oper} {id:Nat} {T:Tab}
def GoodW (C:Ctx) (E:Env) (H:Heap) (w:World) (a:Act) (o:Oper) (id:Nat) (eff:Eff):Prop :=
 (∀ c,o.op ≠ .defer c)->eff.obl -> ∀ (K:Act->World->Prop) (Q:Exit->Act->World->Prop),
  (∀ v w' E',E.le E'->HeapOK C E' (H.upds eff.upd) w'->Rel E' true eff.res v->(∀ j,(j < id ∨ id + 8<=j)->H j=none->E'.blk j=E.blk j/\E'.hdr j=E.hdr j)->K (a.put o.dst v) w')->o.wpIn C.F 0 C.P a w K Q
theorem Good.toW {eff:Eff} (h:Good C E H w a o id eff):GoodW C E H w a o id eff:=by
 intro hnd hq K Q hK
 obtain ⟨v,w',E',hrun,le,hok,hrel,hfr⟩:=h hq
 have:=hK v w' E' le hok hrel (fun j hj _=>hfr j hj)
 refine ⟨fun _ _=>trivial,?_⟩
 rw [Oper.semAt_eq _ _ _ hnd]
 rcases hrun with hrun | ⟨hrun,hv⟩
 ·rw [hrun,Oper.uponIn_value]; exact this
 ·rw [hrun,Oper.uponIn_skip,← hv]; exact this
theorem callsIn_F {n:Nat} {P:Program} {f:FuncId} {args:Array Value} {R:Ending->World->Prop} (h:Calls P f args w R):CallsIn C.F n P f args w R:=(callsIn_wide (n:=n)).2 h
def obNoFn:OB->Bool
 | .cells _ cs=>noFnL cs
 | .fz _ _=>false
 | .vec _ _ _ _=>true
 | .mp _ _ _=>false
 | .vecx _ _ _ _ _ fj=>noFnL fj
theorem OwnOB.move {C C':Ctx} {E E':Env} {w w':World} {id:Nat} {ob:OB} (h:OwnOB C E w id ob) (hP:C'.P=C.P ∨ obNoFn ob=true) (hav:∀ k,E.blk id=some k->C.avail k->C'.avail k) (hM:∀ b o,E.M b=some o->E'.M b=some o) (hb:E'.blk id=E.blk id) (hh:∀ u,E.hdr id=some u->E'.hdr id=some u)
  (hw:∀ k,E.blk id=some k->w'.heap[k]? = w.heap[k]?) (hN:∀ k,E.blk id=some k->E.M k=none->E'.M k=none)
  (hr:∀ o cs us,RelL E o cs us->((∀ t,ob = .cells t cs->RelL E' o cs us)/\(∀ t sz n f j,ob = .vecx t sz n f j cs->RelL E' o cs us))/\(o=false->RelL E' o cs us)):OwnOB C' E' w' id ob:=by
 cases ob with
 | cells t cs =>
  obtain ⟨k,us,hk,ha,hm,hw',hr'⟩:=h
  exact ⟨k,us,by rw [hb]; exact hk,hav k hk ha,hN k hk hm,by rw [hw k hk]; exact hw',(hr _ _ _ hr').1.1 t rfl⟩
 | fz t cs =>
  obtain ⟨k,us,hk,hm,hr'⟩:=h
  exact ⟨k,us,by rw [hb]; exact hk,hM _ _ hm,(hr _ _ _ hr').2 rfl⟩
 | vec t sz n f =>
  obtain ⟨hd,g,hh',ho,hl,hr',hbk,hav'⟩:=h
  refine ⟨hd,g,hh _ hh',⟨ho.1,?_⟩,hl,fun i hi=>(hr _ _ _ (hr' i hi)).2 rfl,by rw [hb]; exact hbk,fun k hk=>⟨hav k (hbk.trans hk) (hav' k hk).1,hN k (hbk.trans hk) (hav' k hk).2⟩⟩
  rcases ho.2 with h0 | ⟨g0,cap,cur,hv,h1,h2,h3⟩
  ·exact .inl h0
  ·subst hv
   exact .inr ⟨g0,cap,cur,rfl,h1,by rw [hw g0 hbk]; exact h2,h3⟩
 | mp t q es =>
  obtain ⟨k,kt,et,hh',hbk,ha,hm,h1,h2,h3,es',clock,ho,hf⟩:=h
  rcases hP with hP | hP
  ·exact ⟨k,kt,et,hh _ hh',by rw [hb]; exact hbk,hav k hbk ha,hN k hbk hm,by rw [hP]; exact h1,by rw [hP]; exact h2,by rw [hP]; exact h3,es',clock,by rw [hw k hbk]; exact ho,by rw [hP]; exact hf⟩
  ·cases hP
 | vecx t sz n f j fj =>
  obtain ⟨hd,g,hh',ho,hl,hr',hj,hbk,hav'⟩:=h
  refine ⟨hd,g,hh _ hh',⟨ho.1,?_⟩,hl,fun i hi hij=>(hr _ _ _ (hr' i hi hij)).2 rfl,fun h=>(hr _ _ _ (hj h)).1.2 t sz n f j rfl,by rw [hb]; exact hbk,fun k hk=>⟨hav k (hbk.trans hk) (hav' k hk).1,hN k (hbk.trans hk) (hav' k hk).2⟩⟩
  rcases ho.2 with h0 | ⟨g0,cap,cur,hv,h1,h2,h3⟩
  ·exact .inl h0
  ·subst hv
   exact .inr ⟨g0,cap,cur,rfl,h1,by rw [hw g0 hbk]; exact h2,h3⟩
theorem Heap.of_cons (p:Nat × OB) (r:List (Nat × OB)) (j:Nat):Heap.of (p :: r) j=if p.1=j then some p.2 else Heap.of r j:=by
 unfold Heap.of
 rw [List.find?_cons]
 by_cases h:p.1=j
 ·simp [h]
 ·have hb:(p.1 == j)=false:=beq_eq_false_iff_ne.2 h
  rw [hb,if_neg h]
theorem Heap.of_mem:∀ {l:List (Nat × OB)} {j:Nat} {ob:OB},Heap.of l j=some ob->(j,ob) ∈ l:=by
 intro l
 induction l with
 | nil=>intro j ob h; cases h
 | cons p r ih =>
  intro j ob h
  rw [Heap.of_cons] at h
  split at h
  ·rename_i e; cases h; rw [← e]; exact List.mem_cons_self
  ·exact List.mem_cons_of_mem _ (ih h)
theorem Heap.of_none:∀ {l:List (Nat × OB)} {j:Nat},Heap.of l j=none -> ∀ p ∈ l,p.1 ≠ j:=by
 intro l
 induction l with
 | nil=>intro j _ p hp; cases hp
 | cons q r ih =>
  intro j h p hp
  rw [Heap.of_cons] at h
  split at h
  ·cases h
  ·cases hp with
   | head=>assumption
   | tail _ hp=>exact ih h p hp
theorem upds_of:∀ (l:List (Nat × OB)) (H:Heap),noDup (l.map (·.1))=true -> ∀ j,(H.upds (l.map fun p=>(p.1,some p.2))) j=match Heap.of l j with | some ob=>some ob | none=>H j:=by
 intro l
 induction l with
 | nil=>intro H _ j; rfl
 | cons p r ih =>
  intro H hn j
  obtain ⟨h1,h2⟩:=noDup_cons hn
  show (Heap.upds (H.put p.1 (some p.2)) _) j=_
  rw [ih _ h2 j,Heap.of_cons]
  by_cases e:p.1=j
  ·rw [if_pos e]
   have:Heap.of r j=none:=by
    cases e':Heap.of r j with
    | none=>rfl
    | some ob=>exact absurd (by show p.1 ∈ _; rw [e]; exact List.mem_map_of_mem (f:=fun x:Nat × OB=>x.1) (Heap.of_mem e')) h1
   rw [this]
   exact if_pos e.symm
  ·rw [if_neg e]
   cases Heap.of r j with
   | some ob=>rfl
   | none=>exact if_neg (fun h=>e h.symm)
theorem dropIds_mem (bs:List Nat):∀ (H:Heap) (b:Nat),b ∈ bs->dropIds H bs b=none:=by
 induction bs with
 | nil=>intro H b h; cases h
 | cons c bs ih =>
  intro H b h
  show dropIds (H.put c none) bs b=none
  by_cases hb:b ∈ bs
  ·exact ih _ _ hb
  ·rw [dropIds_other _ _ _ hb]
   cases h with
   | head=>exact if_pos rfl
   | tail _ h=>exact absurd h hb
def hinOK (L:Nat->Option OB):List (Nat × OB)->Prop
 | []=>True
 | p :: r=>L p.1=some p.2/\hinOK L r
theorem hinOK_mem {L:Nat->Option OB}:∀ {l:List (Nat × OB)},hinOK L l -> ∀ p ∈ l,L p.1=some p.2:=by
 intro l
 induction l with
 | nil=>intro _ p hp; cases hp
 | cons q r ih =>
  intro h p hp
  cases hp with
  | head=>exact h.1
  | tail _ hp=>exact ih h.2 p hp
def fnsOf (args:List AV) (us:List Value):Nat->Value->Prop:=fun k u => ∃ i:Nat,args[i]? = some (AV.fn k)/\us[i]? = some u
def FnIO (P:Program) (E0:Env) (u:Value) (s:CallSpec):Prop :=
 s.pre -> ∀ (E2:Env) (w:World) (vs:List Value),E0.le E2->HeapOK (calleeCtx P E2 w s.hin) E2 (Heap.of s.hin) w->vs.length=s.args.length->(∀ k,Rel E2 true (s.args.getD k .any) (vs.getD k undef)) →
  (∀ p ∈ s.hout,(∀ q ∈ s.hin,q.1 ≠ p.1)->E2.blk p.1=none/\E2.hdr p.1=none) →
  ∃ l,u = .func (.yield l) #[] #[]/\YieldAt Fence.wide 0 P l vs.toArray w (CallPost P s E2 w)
theorem roundIn_F {n:Nat} {P:Program} {l:Nat} {f:FuncId} {tmps:Array Value} {assign body:Code} {R:Ending->World->Prop} (h:RoundIn Fence.wide n P l f tmps assign body w R):RoundIn C.F n P l f tmps assign body w R:=h
def evCall (P:Program) (E0:Env) (L:Nat->Option OB) (fv:AV) (vals:List AV) (s:CallSpec) (id:Nat):Option Eff :=
 match fv with
 | .clo f caps =>
  if noDup ((coeAs L (vals ++ caps) s.args).2 ++ s.hin.map (·.1)) && noDup (s.hout.map (·.1)) && s.hout.all (fun p=>(s.hin.map (·.1)).contains p.1 || (decide (id<=p.1) && decide (p.1 < id + 8))) &&
    s.args.all (fun t=>isFn t || noFn t) && s.hin.all (fun p=>obNoFn p.2) && s.hout.all (fun p=>obNoFn p.2) && noFn s.res then
   some ⟨coeM L s.eqv (vals ++ caps) s.args/\Triple P f s.raw/\s.pre/\hinOK L s.hin ∧
     (if s.args.any isFn then (∀ E us,E0.le E->us.length=s.args.length->(∀ k,Rel E true ((vals ++ caps).getD k .any) (us.getD k undef))->s.fnok (E.setFns (fnsOf s.args us))) else ∀ E,s.fnok E),
    s.res,(coeAs L (vals ++ caps) s.args).2.map (fun b=>(b,none)) ++ (s.hin.map (fun p=>(p.1,none)) ++ s.hout.map (fun p=>(p.1,some p.2)))⟩
  else none
 | .fn k =>
  if s.hin.isEmpty && s.hout.isEmpty && s.args.all noFn && noFn s.res && noDup (coeAs L vals s.args).2 then
   some ⟨(coeAs L vals s.args).1/\(∀ u,E0.fns k u->FnOK P E0 u s.args s.res),s.res,(coeAs L vals s.args).2.map (fun b=>(b,none))⟩
  else if noDup ((coeAs L vals s.args).2 ++ s.hin.map (·.1)) && noDup (s.hout.map (·.1)) && s.hout.all (fun p=>(s.hin.map (·.1)).contains p.1 || (decide (id<=p.1) && decide (p.1 < id + 8))) &&
    s.args.all noFn && s.hin.all (fun p=>obNoFn p.2) && s.hout.all (fun p=>obNoFn p.2) && noFn s.res then
   some ⟨coeM L s.eqv vals s.args/\(∀ u,E0.fns k u->FnIO P E0 u s.raw)/\s.pre/\hinOK L s.hin,
    s.res,(coeAs L vals s.args).2.map (fun b=>(b,none)) ++ (s.hin.map (fun p=>(p.1,none)) ++ s.hout.map (fun p=>(p.1,some p.2)))⟩
  else none
 | .lit .nilFunc=>some ⟨False,s.res,[]⟩
 | _=>none
theorem HeapOK.back {E1 E2 E3:Env} {w':World} {P:Program} {hin hout:List (Nat × OB)} {H1:Heap} (h1:HeapOK C E1 H1 w) (hE2M:E2.M=E1.M) (hE2b:E2.blk=E1.blk) (hE2h:E2.hdr=E1.hdr) (h3:HeapOK (calleeCtx P E2 w hin) E3 (Heap.of hout) w')
  (hin1:∀ p ∈ hin,H1 p.1=some p.2) (hnd:noDup (hout.map (·.1))=true) (hnf:∀ p ∈ hout,obNoFn p.2=true) (hinf:∀ p ∈ hin,∃ t,(∃ cs,p.2 = .cells t cs) ∨ (∃ sz n f,p.2 = .vec t sz n f) ∨ (∃ sz n f j fj,p.2 = .vecx t sz n f j fj))
  (hsame:∀ j,(∀ p ∈ hout,p.1 ≠ j)->E3.blk j=E2.blk j/\E3.hdr j=E2.hdr j) :
  E1.le (E3.setFns E1.fns)/\HeapOK C (E3.setFns E1.fns) ((H1.upds (hin.map fun p=>(p.1,none))).upds (hout.map fun p=>(p.1,some p.2))) w':=by
 have le23:E2.le E3:=h3.le
 have le:E1.le (E3.setFns E1.fns):=⟨fun b o hb=>le23.M _ _ (by rw [hE2M]; exact hb),fun b k hb=>le23.blk _ _ (by rw [hE2b]; exact hb),fun b u hb=>le23.hdr _ _ (by rw [hE2h]; exact hb),rfl⟩
 refine ⟨le,?_⟩
 have hinMap:hin.map (fun p=>(p.1,(none:Option OB)))=(hin.map (·.1)).map (fun b=>(b,none)):=by rw [List.map_map]; rfl
 have hX:H1.upds (hin.map fun p=>(p.1,none))=dropIds H1 (hin.map (·.1)):=by
  rw [hinMap]
  have:=upds_drop H1 (hin.map (·.1)) []
  rw [List.append_nil] at this
  rw [this]; rfl
 rw [hX]
 -- a block of a name that the caller keeps to itself does not stand open to the callee
 have hkeep:∀ j ob,H1 j=some ob->(∀ q ∈ hin,q.1 ≠ j) -> ∀ k,E1.blk j=some k -> ¬ (calleeCtx P E2 w hin).avail k:=by
  intro j ob hj hq k hk hav
  rcases hav with hav | ⟨q,hqm,hqk⟩
  ·have:=OwnOB.blk_lt h1.mem (h1.own j ob hj) hk
   omega
  ·rw [hE2b] at hqk
   exact h1.sep q.1 j k (hq q hqm) (by rw [hin1 q hqm]; simp) (by rw [hj]; simp) hqk hk
 have hav2:∀ k,(calleeCtx P E2 w hin).avail k->C.avail k:=by
  intro k hav
  rcases hav with hav | ⟨q,hqm,hqk⟩
  ·exact C.hA k (Nat.le_trans h1.size hav)
  ·rw [hE2b] at hqk
   have ho:=h1.own q.1 _ (hin1 q hqm)
   obtain ⟨t,hob⟩:=hinf q hqm
   rcases hob with ⟨cs,hob⟩ | ⟨sz,n,f,hob⟩ | ⟨sz,n,f,j,fj,hob⟩
   ·rw [hob] at ho
    obtain ⟨k',us,hk',ha,_⟩:=ho
    rw [hk'] at hqk; cases hqk; exact ha
   ·rw [hob] at ho
    obtain ⟨hd,g,hh,_,_,_,hbk,hav⟩:=ho
    exact (hav k (hbk.symm.trans hqk)).1
   ·rw [hob] at ho
    obtain ⟨hd,g,hh,_,_,_,_,hbk,hav⟩:=ho
    exact (hav k (hbk.symm.trans hqk)).1
 have hlook:∀ j ob,((dropIds H1 (hin.map (·.1))).upds (hout.map fun p=>(p.1,some p.2))) j=some ob->Heap.of hout j=some ob ∨ (Heap.of hout j=none/\H1 j=some ob /\ ∀ q ∈ hin,q.1 ≠ j):=by
  intro j ob hj
  rw [upds_of hout _ hnd j] at hj
  cases e:Heap.of hout j with
  | some ob'=>rw [e] at hj; cases hj; exact .inl rfl
  | none =>
   rw [e] at hj
   simp only at hj
   by_cases hb:j ∈ hin.map (·.1)
   ·rw [dropIds_mem _ _ _ hb] at hj; cases hj
   ·rw [dropIds_other _ _ _ hb] at hj
    exact .inr ⟨rfl,hj,fun q hq e=>hb (by rw [← e]; exact List.mem_map_of_mem hq)⟩
 have hpresK:∀ j ob,H1 j=some ob->(∀ q ∈ hin,q.1 ≠ j) -> ∀ k,E1.blk j=some k->w'.heap[k]? = w.heap[k]? /\ (E1.M k=none->E3.M k=none):=by
  intro j ob hj hq k hk
  have hna:=hkeep j ob hj hq k hk
  refine ⟨h3.pres k hna,fun hm => ?_⟩
  cases e:E3.M k with
  | none=>rfl
  | some o =>
   rcases h3.ext k o e with h | h
   ·rw [show (calleeCtx P E2 w hin).E0.M k=E1.M k from by show E2.M k=_; rw [hE2M],hm] at h; cases h
   ·exact absurd h hna
 refine ⟨h3.os.trans h1.os,h3.tape.trans h1.tape,h3.output.trans h1.output,Nat.le_trans h1.size h3.size,?_,fun b o hb=>h3.mem b o hb,h1.le.trans le,?_,?_,?_⟩
 ·intro b hb
  rw [h3.pres b (fun hav=>hb (hav2 b hav))]
  exact h1.pres b hb
 ·intro b o hb
  rcases h3.ext b o hb with h | h
  ·exact h1.ext b o (by rw [← hE2M]; exact h)
  ·exact .inr (hav2 b h)
 ·intro j ob hj
  rcases hlook j ob hj with hj | ⟨hno,hj,hq⟩
  ·have ho:=h3.own j ob hj
   have hm:=Heap.of_mem hj
   have hf:=hnf _ hm
   refine ho.move (C':=C) (.inr hf) (fun k _ hav=>hav2 k hav) (fun _ _ e=>e) rfl (fun _ e=>e) (fun _ _=>rfl) (fun _ _ e=>e) (fun o cs us hr=>⟨⟨fun t e => ?_,fun t sz n f j e => ?_⟩,fun e => ?_⟩)
   ·rw [show ob=_ from e] at hf
    exact hr.setFns _ (fun _=>hf)
   ·rw [show ob=_ from e] at hf
    exact hr.setFns _ (fun _=>hf)
   ·exact hr.setFns _ (fun e'=>by rw [e] at e'; cases e')
  ·have hsj:=hsame j (Heap.of_none hno)
   refine (h1.own j ob hj).move (C':=C) (.inl rfl) (fun _ _ h=>h) (fun b o e=>le.M b o e) (by show E3.blk j=_; rw [hsj.1,hE2b]) (fun u e=>le.hdr _ _ e) (fun k hk=>(hpresK j ob hj hq k hk).1) (fun k hk hm=>(hpresK j ob hj hq k hk).2 hm) (fun o cs us hr=>⟨⟨fun _ _=>hr.mono le,fun _ _ _ _ _ _=>hr.mono le⟩,fun _=>hr.mono le⟩)
 ·intro i j k hij hi hj hik hjk
  have getob:∀ (x:Option OB),x ≠ none -> ∃ ob,x=some ob:=fun x hx=>by cases x with | none=>exact absurd rfl hx | some ob=>exact ⟨ob,rfl⟩
  obtain ⟨obi,ei⟩:=getob _ hi
  obtain ⟨obj,ej⟩:=getob _ hj
  -- a block of one of hout is open to the callee
  have hopen:∀ j ob,Heap.of hout j=some ob->E3.blk j=some k->(calleeCtx P E2 w hin).avail k:=by
   intro j ob hj hk
   have ho:=h3.own j ob hj
   have hf:=hnf _ (Heap.of_mem hj)
   cases ob with
   | cells t cs=>obtain ⟨k',us,hk',ha,_⟩:=ho; rw [hk'] at hk; cases hk; exact ha
   | fz t cs=>cases hf
   | vec t sz n f=>obtain ⟨hd,g,hh,_,_,_,hbk,hav⟩:=ho; exact (hav k (hbk.symm.trans hk)).1
   | mp t q es=>cases hf
   | vecx t sz n f j fj=>obtain ⟨hd,g,hh,_,_,_,_,hbk,hav⟩:=ho; exact (hav k (hbk.symm.trans hk)).1
  have hE3:∀ j,Heap.of hout j=none->E3.blk j=E1.blk j:=fun j e=>by rw [(hsame j (Heap.of_none e)).1,hE2b]
  rcases hlook i obi ei with hi' | ⟨hni,hi',hqi⟩
  ·rcases hlook j obj ej with hj' | ⟨hnj,hj',hqj⟩
   ·exact h3.sep i j k hij (by rw [hi']; simp) (by rw [hj']; simp) hik hjk
   ·exact hkeep j obj hj' hqj k (by rw [← hE3 j hnj]; exact hjk) (hopen i obi hi' hik)
  ·rcases hlook j obj ej with hj' | ⟨hnj,hj',hqj⟩
   ·exact hkeep i obi hi' hqi k (by rw [← hE3 i hni]; exact hik) (hopen j obj hj' hjk)
   ·exact h1.sep i j k hij (by rw [hi']; simp) (by rw [hj']; simp) (by rw [← hE3 i hni]; exact hik) (by rw [← hE3 j hnj]; exact hjk)
theorem getD_append_value (vs ws:List Value) (k:Nat):(vs ++ ws).getD k undef=if k < vs.length then vs.getD k undef else ws.getD (k - vs.length) undef:=by
 simp only [List.getD_eq_getElem?_getD]
 split
 ·rw [List.getElem?_append_left ‹_›]
 ·rw [List.getElem?_append_right (by omega)]
theorem getD_append_av (vs ws:List AV) (k:Nat):(vs ++ ws).getD k .any=if k < vs.length then vs.getD k .any else ws.getD (k - vs.length) .any:=by
 simp only [List.getD_eq_getElem?_getD]
 split
 ·rw [List.getElem?_append_left ‹_›]
 ·rw [List.getElem?_append_right (by omega)]
theorem isFn_eq {t:AV} (h:isFn t=true):∃ k,t = .fn k:=by
 cases t <;> first | exact ⟨_,rfl⟩ | cases h
theorem upds_append (H:Heap) (l r:List (Nat × Option OB)):H.upds (l ++ r)=(H.upds l).upds r:=by
 induction l generalizing H with
 | nil=>rfl
 | cons x l ih=>exact ih _
theorem noDup_append {l r:List Nat} (h:noDup (l ++ r)=true):noDup l=true/\noDup r=true /\ ∀ b ∈ l,b ∉ r:=by
 induction l with
 | nil=>exact ⟨rfl,h,fun b hb=>by cases hb⟩
 | cons c l ih =>
  obtain ⟨h1,h2⟩:=noDup_cons h
  obtain ⟨h3,h4,h5⟩:=ih h2
  refine ⟨?_,h4,fun b hb => ?_⟩
  ·simp only [noDup,Bool.and_eq_true,Bool.not_eq_true',List.contains_eq_mem,decide_eq_false_iff_not]
   exact ⟨fun hc=>h1 (List.mem_append_left _ hc),h3⟩
  ·cases hb with
   | head=>exact fun hb=>h1 (List.mem_append_right _ hb)
   | tail _ hb=>exact h5 b hb
theorem evCall_sound (h:HeapOK C E H w) (hfr:∀ j,id<=j->j < id + 8->E.blk j=none/\E.hdr j=none/\H j=none) {f:Operand} {xs:Array Operand} {ts:Array TypeId} (ho:o.op = .call { callee := .value f,args:=xs,argTypes:=ts })
  {fv:AV} {vals:List AV} (hf:Rel E true fv (a.eval f)) (hl:vals.length=xs.size) (hv:∀ k,Rel E true (vals.getD k .any) ((xs.toList.map a.eval).getD k undef))
  {L:Nat->Option OB} (hL:∀ b ob,L b=some ob->H b=some ob) {s:CallSpec} {r:Eff} (he:evCall C.P C.E0 L fv vals s id=some r):GoodW C E H w a o id r:=by
 have hvl:(xs.toList.map a.eval).length=vals.length:=by simp [hl]
 have hxs:xs.map a.eval=(xs.toList.map a.eval).toArray:=by apply Array.ext'; simp
 unfold evCall at he
 split at he
 ·rename_i g caps
  split at he
  ·rename_i hc
   simp only [Bool.and_eq_true,List.all_eq_true,Bool.or_eq_true,decide_eq_true_eq] at hc
   obtain ⟨⟨⟨⟨⟨⟨hnd,hndo⟩,hids⟩,hargs⟩,hinf⟩,houtf⟩,hresf⟩:=hc
   cases he
   rintro hnde ⟨hcom,htr,hpre,hhin,hfn0⟩ K Q hK
   have hfn:∀ E us,C.E0.le E->us.length=s.args.length->(∀ k,Rel E true ((vals ++ caps).getD k .any) (us.getD k undef))->s.fnok (E.setFns (fnsOf s.args us)):=by
    split at hfn0
    ·exact hfn0
    ·exact fun E us _ _ _=>hfn0 _
   have hco:=coeM_as hcom
   obtain ⟨hndb,hndi,hdisj⟩:=noDup_append hnd
   -- the closure
   generalize hff:a.eval f=uf at hf
   cases hf with
   | clo _ hcl hcr =>
    rename_i us
    let all:List Value:=xs.toList.map a.eval ++ us
    have hall:∀ k,Rel E true ((vals ++ caps).getD k .any) (all.getD k undef):=by
     intro k
     rw [getD_append_av,getD_append_value,hvl]
     split
     ·exact hv k
     ·exact hcr _
    have hlen:(vals ++ caps).length=s.args.length:=coeAs_len hco
    have hallen:all.length=s.args.length:=by rw [← hlen,List.length_append,List.length_append,hvl,hcl]
    -- what is given up
    obtain ⟨E1,le1,hb1,hh1,hok1,hrel1⟩:=HeapOK.freezeAll _ E H h hndb (fun c hc=>by
     obtain ⟨t1,s1,n1,f1,e1⟩:=coeAs_ids hco c hc
     exact ⟨t1,s1,n1,f1,hL _ _ e1⟩)
    let E2:Env:=E1.setFns (fnsOf s.args all)
    have harg:∀ k,Rel E2 true (s.args.getD k .any) (all.getD k undef):=by
     intro k
     rcases Nat.lt_or_ge k s.args.length with hk | hk
     ·have hget:s.args.getD k .any=s.args[k]:=by simp [List.getD,List.getElem?_eq_getElem hk]
      have hm:=hargs s.args[k] (List.getElem_mem hk)
      rcases hm with hm | hm
      ·obtain ⟨j,hj⟩:=isFn_eq hm
       rw [hget,hj]
       refine .fn j ⟨k,by rw [List.getElem?_eq_getElem hk,hj],?_⟩
       rw [List.getD_eq_getElem?_getD,List.getElem?_eq_getElem (by omega)]
       rfl
      ·have hnfn:isFn (s.args.getD k .any)=false:=by
        rw [hget]
        cases e:s.args[k] <;> first | rfl | (rw [e] at hm; cases hm)
       obtain ⟨h1,h2⟩:=coeAs_get hco k (by omega)
       have:=coeA_rel le1 hnfn h1 (fun b hb t1 s1 n1 f1 e1=>hrel1 b (h2 b hb) t1 s1 n1 f1 (hL _ _ e1)) (hall k)
       exact this.setFns _ (fun _=>by rw [hget]; exact hm)
     ·rw [List.getD_eq_getElem?_getD,List.getElem?_eq_none hk]
      exact .any _
    -- the blocks that are handed on
    have hin1:∀ p ∈ s.hin,(dropIds H (coeAs L (vals ++ caps) s.args).2) p.1=some p.2:=by
     intro p hp
     rw [dropIds_other _ _ _ (fun hm=>hdisj p.1 hm (List.mem_map_of_mem (f:=fun x:Nat × OB=>x.1) hp))]
     exact hL _ _ (hinOK_mem hhin p hp)
    have hokc:HeapOK (calleeCtx C.P E2 w s.hin) E2 (Heap.of s.hin) w:=by
     refine ⟨rfl,rfl,rfl,Nat.le_refl _,fun _ _=>rfl,fun b o' hb=>hok1.mem b o' hb,Env.le.refl _,fun b o' hb => .inl hb,?_,?_⟩
     ·intro j ob hj
      have hm:=Heap.of_mem hj
      have hj1:=hin1 _ hm
      have hnf:=hinf _ hm
      refine (hok1.own j ob hj1).move (C':=calleeCtx C.P E2 w s.hin) (.inr hnf) (fun k hk _ => .inr ⟨(j,ob),hm,hk⟩) (fun _ _ e=>e) rfl (fun _ e=>e) (fun _ _=>rfl) (fun _ _ e=>e) (fun o' cs us' hr=>⟨⟨fun t e => ?_,fun t sz n f j e => ?_⟩,fun e => ?_⟩)
      ·have e':ob = .cells t cs:=e
       rw [e'] at hnf
       exact hr.setFns _ (fun _=>hnf)
      ·have e':ob = .vecx t sz n f j cs:=e
       rw [e'] at hnf
       exact hr.setFns _ (fun _=>hnf)
      ·exact hr.setFns _ (fun e'=>by rw [e] at e'; cases e')
     ·intro i j k hij hi hj hik hjk
      have get:∀ j,Heap.of s.hin j ≠ none->(dropIds H (coeAs L (vals ++ caps) s.args).2) j ≠ none:=by
       intro j hj
       cases e:Heap.of s.hin j with
       | none=>exact absurd e hj
       | some ob=>rw [hin1 _ (Heap.of_mem e)]; simp
      exact hok1.sep i j k hij (get i hi) (get j hj) hik hjk
    have hfresh:∀ p ∈ s.hout,(∀ q ∈ s.hin,q.1 ≠ p.1)->E2.blk p.1=none/\E2.hdr p.1=none:=by
     intro p hp hq
     rcases hids p hp with hm | hm
     ·simp only [List.contains_eq_mem,decide_eq_true_eq] at hm
      obtain ⟨q,hqm,hqe⟩:=List.mem_map.1 hm
      exact absurd hqe (hq q hqm)
     ·have:=hfr p.1 hm.1 hm.2
      exact ⟨by show E1.blk _=_; rw [hb1]; exact this.1,by show E1.hdr _=_; rw [hh1]; exact this.2.1⟩
    have hcalls:=htr.2 hpre E2 w all (hfn E1 all (h.le.trans le1) hallen (fun k=>(hall k).mono le1)) hokc hallen harg hfresh
    -- the operation
    have hrun:(execOp a.eval o).run C.P w = .ok (.enter g all.toArray) w:=by
     have h1:=htr.1 ((xs.toList.map a.eval).toArray ++ us.toArray) w
     have h2:(xs.toList.map a.eval).toArray ++ us.toArray=all.toArray:=by simp [all]
     rw [h2] at h1
     simp only [execOp,ho,resolve,Deferred.ofValue,hff,invoke,hxs,Sem.run_bind,Sem.run_pure,Result.andThen_ok,Array.empty_append]
     rw [h2]
     exact h1
    refine ⟨fun _ _=>trivial,?_⟩
    rw [Oper.semAt_eq _ _ _ hnde,hrun,Oper.uponIn_enter]
    refine ⟨(fun h=>by cases h),(callsIn_F hcalls).mono ?_⟩
    rintro e w' ⟨v,E3,rfl,hok3,hres,hsame⟩
    have hinT:∀ p ∈ s.hin,∃ t,(∃ cs,p.2 = .cells t cs) ∨ (∃ sz n f,p.2 = .vec t sz n f) ∨ (∃ sz n f j fj,p.2 = .vecx t sz n f j fj):=by
     intro p hp
     have:=hinf p hp
     cases e:p.2 with
     | cells t cs=>exact ⟨t,.inl ⟨cs,rfl⟩⟩
     | fz t cs=>rw [e] at this; cases this
     | vec t sz n f=>exact ⟨t,.inr (.inl ⟨sz,n,f,rfl⟩)⟩
     | vecx t sz n f j fj=>exact ⟨t,.inr (.inr ⟨sz,n,f,j,fj,rfl⟩)⟩
     | mp t q es=>rw [e] at this; cases this
    obtain ⟨le4,hok4⟩:=HeapOK.back (E2:=E2) hok1 rfl rfl rfl hok3 hin1 hndo (fun p hp=>houtf p hp) hinT hsame
    refine hK v w' (E3.setFns E1.fns) (le1.trans le4) ?_ (hres.setFns _ (fun _=>hresf)) (fun j hj hH => ?_)
    ·show HeapOK C _ (H.upds _) w'
     rw [upds_drop,upds_append]
     exact hok4
    ·have hno:∀ p ∈ s.hout,p.1 ≠ j:=by
      intro p hp e
      rcases hids p hp with hm | hm
      ·simp only [List.contains_eq_mem,decide_eq_true_eq] at hm
       obtain ⟨q,hqm,hqe⟩:=List.mem_map.1 hm
       have:=hL _ _ (hinOK_mem hhin q hqm)
       have hqj:q.1=j:=by rw [← e]; exact hqe
       rw [hqj,hH] at this
       cases this
      ·omega
     have:=hsame j hno
     exact ⟨by show E3.blk j=_; rw [this.1]; show E1.blk j=_; rw [hb1],by show E3.hdr j=_; rw [this.2]; show E1.hdr j=_; rw [hh1]⟩
  ·cases he
 ·rename_i k
  split at he
  ·rename_i hc
   simp only [Bool.and_eq_true,List.all_eq_true,List.isEmpty_iff] at hc
   obtain ⟨⟨⟨⟨hie,hoe⟩,hargs⟩,hresf⟩,hndb⟩:=hc
   cases he
   rintro hnde ⟨hco,hfnok⟩ K Q hK
   generalize hff:a.eval f=uf at hf
   cases hf with
   | fn _ hfk =>
    rw [← h.le.fns.symm] at hfk
    obtain ⟨g,caps,hu,hcl,hcalls⟩:=hfnok uf hfk
    let vsl:List Value:=xs.toList.map a.eval
    have hlen:vals.length=s.args.length:=coeAs_len hco
    obtain ⟨E1,le1,hb1,hh1,hok1,hrel1⟩:=HeapOK.freezeAll _ E H h hndb (fun c hc=>by
     obtain ⟨t1,s1,n1,f1,e1⟩:=coeAs_ids hco c hc
     exact ⟨t1,s1,n1,f1,hL _ _ e1⟩)
    have harg:∀ k,Rel E1 true (s.args.getD k .any) (vsl.getD k undef):=by
     intro k
     rcases Nat.lt_or_ge k s.args.length with hk | hk
     ·have hget:s.args.getD k .any=s.args[k]:=by simp [List.getD,List.getElem?_eq_getElem hk]
      have hm:=hargs s.args[k] (List.getElem_mem hk)
      have hnfn:isFn (s.args.getD k .any)=false:=by
       rw [hget]
       cases e:s.args[k] <;> first | rfl | (rw [e] at hm; cases hm)
      obtain ⟨h1,h2⟩:=coeAs_get hco k (by omega)
      exact coeA_rel le1 hnfn h1 (fun b hb t1 s1 n1 f1 e1=>hrel1 b (h2 b hb) t1 s1 n1 f1 (hL _ _ e1)) (hv k)
     ·rw [List.getD_eq_getElem?_getD,List.getElem?_eq_none hk]
      exact .any _
    have hc1:=hcalls E1 w vsl (fun b o' hb=>(h.le.trans le1).M b o' hb) hok1.mem (by rw [hvl,hlen]) harg
    have hrun:(execOp a.eval o).run C.P w = .ok (.enter g (vsl ++ caps).toArray) w:=by
     have h1:=hcl ((xs.toList.map a.eval).toArray ++ caps.toArray) w
     have h2:(xs.toList.map a.eval).toArray ++ caps.toArray=(vsl ++ caps).toArray:=by simp [vsl]
     rw [h2] at h1
     simp only [execOp,ho,resolve,Deferred.ofValue,hff,hu,invoke,hxs,Sem.run_bind,Sem.run_pure,Result.andThen_ok,Array.empty_append]
     rw [h2]
     exact h1
    refine ⟨fun _ _=>trivial,?_⟩
    rw [Oper.semAt_eq _ _ _ hnde,hrun,Oper.uponIn_enter]
    refine ⟨(fun h=>by cases h),(callsIn_F hc1).mono ?_⟩
    rintro e w' ⟨v,E3,rfl,hok3,hres,hsame⟩
    obtain ⟨le4,hok4⟩:=HeapOK.back (E2:=E1) hok1 rfl rfl rfl hok3 (fun p hp=>by cases hp) rfl (fun p hp=>by cases hp) (fun p hp=>by cases hp) hsame
    refine hK v w' (E3.setFns E1.fns) (le1.trans le4) ?_ (hres.setFns _ (fun _=>hresf)) (fun j hj hH => ?_)
    ·show HeapOK C _ (H.upds _) w'
     have:=upds_drop H (coeAs L vals s.args).2 []
     rw [List.append_nil] at this
     rw [this]
     exact hok4
    ·have:=hsame j (fun p hp=>by cases hp)
     exact ⟨by show E3.blk j=_; rw [this.1,hb1],by show E3.hdr j=_; rw [this.2,hh1]⟩
  ·split at he
   ·rename_i hc
    simp only [Bool.and_eq_true,List.all_eq_true,Bool.or_eq_true,decide_eq_true_eq] at hc
    obtain ⟨⟨⟨⟨⟨⟨hnd,hndo⟩,hids⟩,hargs⟩,hinf⟩,houtf⟩,hresf⟩:=hc
    cases he
    rintro hnde ⟨hcom,hfnio,hpre,hhin⟩ K Q hK
    have hco:=coeM_as hcom
    obtain ⟨hndb,hndi,hdisj⟩:=noDup_append hnd
    generalize hff:a.eval f=uf at hf
    cases hf with
    | fn _ hfk =>
     rw [← h.le.fns.symm] at hfk
     let vsl:List Value:=xs.toList.map a.eval
     have hlen:vals.length=s.args.length:=coeAs_len hco
     obtain ⟨E1,le1,hb1,hh1,hok1,hrel1⟩:=HeapOK.freezeAll _ E H h hndb (fun c hc=>by
      obtain ⟨t1,s1,n1,f1,e1⟩:=coeAs_ids hco c hc
      exact ⟨t1,s1,n1,f1,hL _ _ e1⟩)
     have harg:∀ k,Rel E1 true (s.args.getD k .any) (vsl.getD k undef):=by
      intro k
      rcases Nat.lt_or_ge k s.args.length with hk | hk
      ·have hget:s.args.getD k .any=s.args[k]:=by simp [List.getD,List.getElem?_eq_getElem hk]
       have hm:=hargs s.args[k] (List.getElem_mem hk)
       have hnfn:isFn (s.args.getD k .any)=false:=by
        rw [hget]
        cases e:s.args[k] <;> first | rfl | (rw [e] at hm; cases hm)
       obtain ⟨h1,h2⟩:=coeAs_get hco k (by omega)
       exact coeA_rel le1 hnfn h1 (fun b hb t1 s1 n1 f1 e1=>hrel1 b (h2 b hb) t1 s1 n1 f1 (hL _ _ e1)) (hv k)
      ·rw [List.getD_eq_getElem?_getD,List.getElem?_eq_none hk]
       exact .any _
     have hin1:∀ p ∈ s.hin,(dropIds H (coeAs L vals s.args).2) p.1=some p.2:=by
      intro p hp
      rw [dropIds_other _ _ _ (fun hm=>hdisj p.1 hm (List.mem_map_of_mem (f:=fun x:Nat × OB=>x.1) hp))]
      exact hL _ _ (hinOK_mem hhin p hp)
     have hokc:HeapOK (calleeCtx C.P E1 w s.hin) E1 (Heap.of s.hin) w:=by
      refine ⟨rfl,rfl,rfl,Nat.le_refl _,fun _ _=>rfl,fun b o' hb=>hok1.mem b o' hb,Env.le.refl _,fun b o' hb => .inl hb,?_,?_⟩
      ·intro j ob hj
       have hm:=Heap.of_mem hj
       have hnf:=hinf _ hm
       exact (hok1.own j ob (hin1 _ hm)).move (C':=calleeCtx C.P E1 w s.hin) (.inr hnf) (fun k hk _ => .inr ⟨(j,ob),hm,hk⟩) (fun _ _ e=>e) rfl (fun _ e=>e) (fun _ _=>rfl) (fun _ _ e=>e) (fun o' cs us' hr=>⟨⟨fun _ _=>hr,fun _ _ _ _ _ _=>hr⟩,fun _=>hr⟩)
      ·intro i j k hij hi hj hik hjk
       have get:∀ j,Heap.of s.hin j ≠ none->(dropIds H (coeAs L vals s.args).2) j ≠ none:=by
        intro j hj
        cases e:Heap.of s.hin j with
        | none=>exact absurd e hj
        | some ob=>rw [hin1 _ (Heap.of_mem e)]; simp
       exact hok1.sep i j k hij (get i hi) (get j hj) hik hjk
     have hfresh:∀ p ∈ s.hout,(∀ q ∈ s.hin,q.1 ≠ p.1)->E1.blk p.1=none/\E1.hdr p.1=none:=by
      intro p hp hq
      rcases hids p hp with hm | hm
      ·simp only [List.contains_eq_mem,decide_eq_true_eq] at hm
       obtain ⟨q,hqm,hqe⟩:=List.mem_map.1 hm
       exact absurd hqe (hq q hqm)
      ·have:=hfr p.1 hm.1 hm.2
       exact ⟨by rw [hb1]; exact this.1,by rw [hh1]; exact this.2.1⟩
     obtain ⟨l,hul,fn,tmps,assign,body,hy,hround⟩:=hfnio uf hfk hpre E1 w vsl (h.le.trans le1) hokc (by show vsl.length=s.args.length; rw [← hlen]; simp [vsl,hl]) harg hfresh
     have hrun:(execOp a.eval o).run C.P w = .ok (.round l fn tmps assign body) w:=by
      have h2:(xs.toList.map a.eval).toArray=vsl.toArray:=rfl
      simp only [execOp,ho,resolve,Deferred.ofValue,hff,hul,invoke,hxs,Sem.run_bind,Sem.run_pure,Result.andThen_ok,Array.empty_append,Array.append_empty,h2]
      exact hy
     refine ⟨fun _ _=>trivial,?_⟩
     rw [Oper.semAt_eq _ _ _ hnde,hrun,Oper.uponIn_round]
     refine ⟨(fun h=>by cases h),(roundIn_F hround).mono ?_⟩
     rintro e w' ⟨v,E3,rfl,hok3,hres,hsame⟩
     have hinT:∀ p ∈ s.hin,∃ t,(∃ cs,p.2 = .cells t cs) ∨ (∃ sz n f,p.2 = .vec t sz n f) ∨ (∃ sz n f j fj,p.2 = .vecx t sz n f j fj):=by
      intro p hp
      have:=hinf p hp
      cases e:p.2 with
      | cells t cs=>exact ⟨t,.inl ⟨cs,rfl⟩⟩
      | fz t cs=>rw [e] at this; cases this
      | vec t sz n f=>exact ⟨t,.inr (.inl ⟨sz,n,f,rfl⟩)⟩
      | vecx t sz n f j fj=>exact ⟨t,.inr (.inr ⟨sz,n,f,j,fj,rfl⟩)⟩
      | mp t q es=>rw [e] at this; cases this
     obtain ⟨le4,hok4⟩:=HeapOK.back (E2:=E1) hok1 rfl rfl rfl hok3 hin1 hndo (fun p hp=>houtf p hp) hinT hsame
     refine hK v w' (E3.setFns E1.fns) (le1.trans le4) ?_ (hres.setFns _ (fun _=>hresf)) (fun j hj hH => ?_)
     ·show HeapOK C _ (H.upds _) w'
      rw [upds_drop,upds_append]
      exact hok4
     ·have hno:∀ p ∈ s.hout,p.1 ≠ j:=by
       intro p hp e
       rcases hids p hp with hm | hm
       ·simp only [List.contains_eq_mem,decide_eq_true_eq] at hm
        obtain ⟨q,hqm,hqe⟩:=List.mem_map.1 hm
        have:=hL _ _ (hinOK_mem hhin q hqm)
        have hqj:q.1=j:=by rw [← e]; exact hqe
        rw [hqj,hH] at this
        cases this
       ·omega
      have:=hsame j hno
      exact ⟨by show E3.blk j=_; rw [this.1,hb1],by show E3.hdr j=_; rw [this.2,hh1]⟩
   ·cases he
 ·cases he; intro _ hq; exact hq.elim
 ·cases he
end
end Go.Ab
namespace Go.Ab
open Go Go.RowKit
theorem run_copy_gen {P:Program} {dT elem:TypeId} {ei:TI} (hu:P.underlying dT=some (.slice elem)) (he:TOK P elem ei) (w:World) (sT ty:TypeId) (g o dLen dCap:Nat) (a:Addr) (sLen sCap:Nat) (cur:List Value) (t:TypeId) (cs:List Value)
  (hg:w.heap[g]? = some (.cells cur.toArray t (0,0))) (hn:cs.length=sLen * ei.size) (hle:sLen<=dLen) (hsrc:∀ j v,cs[j]? = some v->w.cell? (a.add j)=some v) (hfit:o + cs.length<=cur.length) (h1:∀ v ∈ cs,v.oneCell'=true) :
  (Builtin.copy_ #[dT,sT] ty #[.slice (some ⟨g,o,none⟩) dLen dCap,.slice (some a) sLen sCap]).run P w = .ok (goInt sLen) (w.setRow g (ovw cur o cs).toArray):=by
 have hl:=run_loadCells_list (P:=P) w a cs hsrc
 have hst:=run_storeCells_at P g o t cs 0 cur.toArray w hg (by simpa using hfit) h1
 have hm:Nat.min sLen dLen=sLen:=Nat.min_eq_left hle
 simp [Builtin.copy_,run_underlying hu,Builtin.lenOf,Builtin.firstCells,he.sizeOf w,hm,← hn,hl,hst,ovw]
theorem ovw_get (us vs:List Value) (off i:Nat) (hfit:off + vs.length<=us.length):(ovw us off vs)[i]? = if i < off then us[i]? else if i < off + vs.length then vs[i - off]? else us[i]? := by
 have ht:(us.take off).length=off:=by rw [List.length_take]; omega
 unfold ovw
 by_cases h1:i < off
 ·rw [if_pos h1,List.append_assoc,List.getElem?_append_left (by omega),List.getElem?_take,if_pos h1]
 ·rw [if_neg h1,List.append_assoc,List.getElem?_append_right (by omega),ht]
  by_cases h2:i < off + vs.length
  ·rw [if_pos h2,List.getElem?_append_left (by omega)]
  ·rw [if_neg h2,List.getElem?_append_right (by omega),List.getElem?_drop]
   congr 1; omega
theorem ovw_part (us vs cs:List Value) (off:Nat) (hle:cs.length<=vs.length) (hfit:off + vs.length<=us.length) (h:∀ j,j < vs.length->vs[j]? = if j < cs.length then cs[j]? else us[off + j]?):ovw us off vs=ovw us off cs:=by
 refine List.ext_getElem? fun i => ?_
 rw [ovw_get us vs off i hfit,ovw_get us cs off i (by omega)]
 by_cases h1:i < off
 ·rw [if_pos h1,if_pos h1]
 ·rw [if_neg h1,if_neg h1]
  by_cases h2:i < off + vs.length
  ·rw [if_pos h2,h (i - off) (by omega)]
   by_cases h3:i < off + cs.length
   ·rw [if_pos h3,if_pos (by omega)]
   ·rw [if_neg h3,if_neg (by omega)]; congr 1; omega
  ·rw [if_neg h2,if_neg (by omega)]
theorem flat_at (g:Nat->List Value) (sz n:Nat) (hs:0 < sz) (hg:∀ i,i < n->(g i).length=sz) {j:Nat} (hj:j < n * sz):((List.range n).flatMap g)[j]? = (g (j / sz))[j % sz]? := by
 have h1:j / sz < n:=Nat.div_lt_of_lt_mul (by rw [Nat.mul_comm]; exact hj)
 have h2:=flat_get g sz n hg (j / sz) (j % sz) h1 (Nat.mod_lt _ hs)
 rw [← h2]
 congr 1
 rw [Nat.mul_comm]; exact (Nat.div_add_mod j sz).symm
def evCopy (T:Tab) (L:Nat->Option OB) (t:TypeId) (x y:AV):Option Eff :=
 match T.kind t with
 | some (.slice e) =>
  match T e with
  | some ei =>
   match x,y with
   | .win b p sz n,.sl sz2 m f =>
    match L b with
    | some (.cells ty cs) =>
     match nav cs p with
     | some (.arr sz3 n3 g :: _,q0) =>
      if sz2=ei.size/\sz3=ei.size/\n3=n/\0 < ei.size/\sz=sz then
       match setP cs p [.arr sz3 n3 (fun j=>if j < m then f j else g j)] with
       | some (cs',q,_)=>some ⟨q0/\q/\m<=n/\0 < m,.lit (.int .i64 m),[(b,some (.cells ty cs'))]⟩
       | none=>none
      else none
     | _=>none
    | _=>none
   | _,_=>none
  | none=>none
 | _=>none
section
variable {C:Ctx} {E:Env} {H:Heap} {w:World} {a:Act} {o:Oper} {id:Nat} {T:Tab}
def evWin (T:Tab) (t:TypeId) (x:AV) (hi:Option AV):Option VEff :=
 match T.kind t with
 | some (.array n e) =>
  match T e with
  | some ei =>
   match hi with
   | none =>
    match x with
    | .ptr b p=>if capP p=0 then some (True,.win b p ei.size n) else none
    | .rp [.arr sz m f]=>if sz=ei.size/\m=n/\n<=65536 then some (True,.sl sz n f) else none
    | _=>none
   | some (.lit (.int .i64 h)) =>
    match x with
    | .ptr b p=>if capP p=0 then some (0<=h/\h<=n,.win b p ei.size h.toNat) else none
    | .rp [.arr sz m f]=>if sz=ei.size/\m=n/\n<=65536 then some (0<=h/\h<=n,.sl sz h.toNat f) else none
    | _=>none
   | _=>none
  | none=>none
 | _=>none
theorem add_zero' (k off:Nat):(⟨k,off,none⟩:Addr).add 0=⟨k,off,none⟩:=by unfold Addr.add; split <;> simp_all
theorem run_slice_array {P:Program} {t e:TypeId} {n:Nat} {ei:TI} (hu:P.underlying t=some (.array n e)) (he:TOK P e ei) (w:World) (ad:Addr) (h:Int) (hi:Option Value) (hhi:hi=some (.int .i64 h) ∨ (hi=none/\h=n)) (h0:0<=h) (h1:h<=n) (hz:ad.add 0=ad) :
  (Instr.sliceAt t (.pointer (some ad)) none hi none).run P w = .ok (.slice (some ad) h.toNat n) w:=by
 have hsa:(Instr.sureAddr (.pointer (some ad))).run P w = .ok ad w:=rfl
 rcases hhi with rfl | ⟨rfl,rfl⟩
 ·have:=run_sliceBound (P:=P) (w:=w) .i64 h n .sliceAlen h0 h1
  simp [Instr.sliceAt,run_underlying hu,Instr.sliceBounds,this,he.sizeOf w,hsa,hz]
 ·simp [Instr.sliceAt,run_underlying hu,Instr.sliceBounds,he.sizeOf w,hsa,hz]
theorem rel_arr1 {o:Bool} {sz m:Nat} {f:Nat->List AV} {u:Value} (h:Rel E o (.rp [.arr sz m f]) u) (hm:m<=65536) (k:Nat) (hk:k<=m):∃ b off,u = .pointer (some ⟨b,off,none⟩)/\Rel E true (.sl sz k f) (.slice (some ⟨b,off,none⟩) k m):=by
 cases h with
 | rp b off hmm hl =>
 refine ⟨b,off,rfl,?_⟩
 cases hl with
 | cons h' _ _=>cases h'
 | arr g hg hf hs' =>
 rename_i us0
 have hfl:=flat_length g sz m hg
 refine .slA sz k f b off m g hk (by unfold maxLen; omega) (fun i hi=>hg i (by omega)) (fun i j hi hj => ?_) (fun i hi=>hf i (by omega))
 have hlt:i < m:=by omega
 have hin:i * sz + sz<=m * sz:=by
  have:(i + 1) * sz<=m * sz:=Nat.mul_le_mul_right _ hlt
  rw [Nat.add_mul] at this; omega
 have:=hmm (i * sz + j) (by rw [List.length_append,hfl]; omega)
 rw [List.getElem?_append_left (by rw [hfl]; omega),flat_get g sz m hg _ _ hlt hj] at this
 rw [Nat.add_assoc]
 exact this
theorem evWin_sound (hT:Tab.ok C.P T) (h:HeapOK C E H w) {x:Operand} {hi:Option Operand} {t:TypeId} (ho:o.op = .slice t x none hi none) {vx:AV} {vhi:Option AV} (hx:Rel E true vx (a.eval x))
  (hn:hi=none ↔ vhi=none) (hh:∀ y v,hi=some y->vhi=some v->Rel E true v (a.eval y)) {r:VEff} (he:evWin T t vx vhi=some r):Good C E H w a o id ⟨r.1,r.2,[]⟩:=by
 refine Good.val h fun hq => ?_
 unfold evWin at he
 split at he
 ·rename_i n e hk
  have hu:C.P.underlying t=some (.array n e):=Tab.kind_ok hT hk
  split at he
  ·rename_i ei hei
   have key:∀ (ad:Addr) (h:Int) (hv:Option Value),hi.map a.eval=hv->(hv=some (.int .i64 h) ∨ (hv=none/\h=n))->0<=h->h<=n->ad.add 0=ad->a.eval x = .pointer (some ad) →
     (execOp a.eval o).run C.P w = .ok (.value (.slice (some ad) h.toNat n)) w:=by
    intro ad h hv he' h1 h2 h3 h4 h5
    have:=run_slice_array hu (hT _ _ hei) w ad h hv h1 h2 h3 h4
    simp only [execOp,ho,h5,Option.map_none,he',Sem.run_bind,this,Result.andThen_ok,Sem.run_pure]
   split at he
   ·have hin:hi=none:=hn.2 rfl
    generalize hz:a.eval x=z at hx
    split at he
    ·split at he
     ·rename_i hcp
      cases he
      cases hx with
      | ptr _ _ hb =>
      rename_i b p k
      exact ⟨_,key _ n none (by rw [hin]; rfl) (.inr ⟨rfl,rfl⟩) (by omega) (by omega) (add_zero' _ _) hz,.win b p ei.size n hb ⟨Nat.le_refl _,by rw [hcp]; exact Nat.zero_le _,fun hc=>absurd hcp hc⟩⟩
     ·cases he
    ·split at he
     ·rename_i hc
      cases he
      obtain ⟨rfl,rfl,hm⟩:=hc
      obtain ⟨b,off,rfl,hr⟩:=rel_arr1 hx hm _ (Nat.le_refl _)
      exact ⟨_,key _ _ none (by rw [hin]; rfl) (.inr ⟨rfl,rfl⟩) (by omega) (by omega) (add_zero' _ _) hz,hr⟩
     ·cases he
    ·cases he
   ·rename_i hv
    cases hie:hi with
    | none=>cases hn.1 hie
    | some y =>
    have hy:=hh y _ hie rfl
    have hye:a.eval y = .int .i64 hv:=by
     generalize a.eval y=u at hy
     cases hy; rfl
    generalize hz:a.eval x=z at hx
    split at he
    ·split at he
     ·rename_i hcp
      cases he
      cases hx with
      | ptr _ _ hb =>
      rename_i b p k
      exact ⟨_,key _ hv (some (.int .i64 hv)) (by rw [hie]; simp [hye]) (.inl rfl) hq.1 hq.2 (add_zero' _ _) hz,.win b p ei.size hv.toNat hb ⟨by have:=hq.2; omega,by rw [hcp]; exact Nat.zero_le _,fun hc=>absurd hcp hc⟩⟩
     ·cases he
    ·split at he
     ·rename_i hc
      cases he
      obtain ⟨rfl,rfl,hm⟩:=hc
      obtain ⟨b,off,rfl,hr⟩:=rel_arr1 hx hm hv.toNat (by have:=hq.2; omega)
      exact ⟨_,key _ hv (some (.int .i64 hv)) (by rw [hie]; simp [hye]) (.inl rfl) hq.1 hq.2 (add_zero' _ _) hz,hr⟩
     ·cases he
    ·cases he
   ·cases he
  ·cases he
 ·cases he
theorem evCopy_sound (hT:Tab.ok C.P T) (h:HeapOK C E H w) {x y:Operand} {t t':TypeId} (ho:o.op = .call { callee := .builtin .copy,args := #[x,y],argTypes := #[t,t'] })
  {vx vy:AV} (hx:Rel E true vx (a.eval x)) (hy:Rel E true vy (a.eval y)) {L:Nat->Option OB} (hL:∀ b ob,L b=some ob->H b=some ob) {r:Eff} (he:evCopy T L t vx vy=some r):Good C E H w a o id r:=by
 unfold evCopy at he
 split at he
 ·rename_i e hk
  have hu:C.P.underlying t=some (.slice e):=Tab.kind_ok hT hk
  split at he
  ·rename_i ei hei
   split at he
   ·rename_i b p sz n sz2 m f
    split at he
    ·rename_i ty cs hLb
     split at he
     ·rename_i sz3 n3 g rest q0 hnav
      split at he
      ·rename_i hc
       obtain ⟨rfl,rfl,rfl,hpos,_⟩:=hc
       split at he
       ·rename_i cs' q d hs
        cases he
        rintro ⟨hq0,hq,hmn,hm0⟩
        obtain ⟨k,us,hbk,ha,hM,hw,hr⟩:=h.own b _ (hL _ _ hLb)
        generalize hz:a.eval x=z at hx
        cases hx with
        | win _ _ _ _ hb hcap =>
        rename_i kk cap
        rw [hbk] at hb; cases hb
        generalize hz2:a.eval y=z2 at hy
        cases hy with
        | slN=>exact absurd hm0 (by omega)
        | slZ=>exact absurd hm0 (by omega)
        | slA _ _ _ b2 off cap2 gs hn2 hc2 hg2 hm2 hf2 =>
        obtain ⟨us1,hr1,hget⟩:=nav_rel hnav hq0 hr
        cases hr1 with
        | cons h1 _ _=>cases h1
        | arr ko hko hrel hrest =>
        rename_i us2
        have hsl:∀ j,j < n3->((fun j=>if j < m then gs j else ko j) j).length=ei.size:=by
         intro j hj
         show (if j < m then gs j else ko j).length=ei.size
         split
         ·exact hg2 j ‹_›
         ·exact hko j hj
        have hnew:∀ o:Bool,RelL E o [.arr ei.size n3 (fun j=>if j < m then f j else g j)] ((List.range n3).flatMap (fun j=>if j < m then gs j else ko j)):=by
         intro o
         have:=RelL.arr (o:=o) (E:=E) (sz:=ei.size) (n:=n3) (f:=fun j=>if j < m then f j else g j) (fun j=>if j < m then gs j else ko j) hsl (fun j hj=>by
          show RelL E false (if j < m then f j else g j) (if j < m then gs j else ko j)
          split
          ·exact hf2 j ‹_›
          ·exact hrel j hj) .nil
         simpa using this
        obtain ⟨h1,h2⟩:=setP_rel (hnew true) hs hq (fun _=>hnew false) hr
        have hlen:=flat_length (fun j=>if j < m then gs j else ko j) ei.size n3 hsl
        have hclen:=flat_length gs ei.size m hg2
        have hmul:m * ei.size<=n3 * ei.size:=Nat.mul_le_mul_right _ hmn
        rw [hlen] at h2
        have hov:ovw us (poff p) ((List.range n3).flatMap (fun j=>if j < m then gs j else ko j))=ovw us (poff p) ((List.range m).flatMap gs):=by
         refine ovw_part _ _ _ _ (by rw [hlen,hclen]; exact hmul) (by rw [hlen]; exact h2) (fun j hj => ?_)
         rw [hlen] at hj
         rw [hclen,flat_at _ _ _ hpos hsl hj]
         by_cases hjm:j < m * ei.size
         ·have hd:j / ei.size < m:=Nat.div_lt_of_lt_mul (by rw [Nat.mul_comm]; exact hjm)
          rw [if_pos hjm,flat_at gs _ _ hpos hg2 hjm]
          simp only [if_pos hd]
         ·have hd:¬ j / ei.size < m:=by
           intro hd
           exact hjm ((Nat.div_lt_iff_lt_mul hpos).1 hd)
          rw [if_neg hjm]
          simp only [if_neg hd]
          have hkl:=flat_length ko ei.size n3 hko
          rw [hget j (by rw [List.length_append,hkl]; omega),List.getElem?_append_left (by rw [hkl]; exact hj),flat_at ko _ _ hpos hko hj]
        have hone:∀ v ∈ (List.range m).flatMap gs,v.oneCell'=true:=by
         intro v hv
         obtain ⟨j,hj,hv⟩:=List.mem_flatMap.1 hv
         exact (hf2 j (List.mem_range.1 hj)).oneCell v hv
        have hsrc:∀ j v,((List.range m).flatMap gs)[j]? = some v->w.cell? ((⟨b2,off,none⟩:Addr).add j)=some v:=by
         intro j v hv
         have hj:j < m * ei.size:=by rw [← hclen]; exact (List.getElem?_eq_some_iff.1 hv).1
         have hd:j / ei.size < m:=Nat.div_lt_of_lt_mul (by rw [Nat.mul_comm]; exact hj)
         have hmc:=hm2 (j / ei.size) (j % ei.size) hd (Nat.mod_lt _ hpos)
         rw [flat_at gs _ _ hpos hg2 hj] at hv
         rw [hv] at hmc
         have hadd:(⟨b2,off,none⟩:Addr).add j=⟨b2,off + j,none⟩:=by unfold Addr.add; split <;> simp_all
         rw [hadd]
         refine mcell_cell h.mem ?_
         rw [← hmc]
         congr 1
         have:=Nat.div_add_mod j ei.size
         rw [Nat.mul_comm] at this
         omega
        have hrun:=run_copy_gen (P:=C.P) hu (hT _ _ hei) w t' o.type k (poff p) n3 cap ⟨b2,off,none⟩ m cap2 us ty ((List.range m).flatMap gs) hw hclen hmn hsrc (by rw [hclen]; omega) hone
        refine ⟨.int .i64 m,w.setRow k (ovw us (poff p) ((List.range m).flatMap gs)).toArray,E,.inl ?_,Env.le.refl E,?_,.lit _,fun _ _=>⟨rfl,rfl⟩⟩
        ·have hgo:(goInt m:Value) = .int .i64 m:=rfl
         simp [execOp,ho,resolve,invoke,builtin,hz,hz2,hrun,hgo]
        ·rw [← hov]
         exact h.setCells b k ty cs' _ (by rw [hL _ _ hLb]; simp) hbk ha hM (grownBy_setRow w k _) (setRow_heap w k _ _ ty (0,0) hw) h1
       ·cases he
      ·cases he
     ·cases he
    ·cases he
   ·cases he
  ·cases he
 ·cases he
end
end Go.Ab
namespace Go.Ab
open Go Go.RowKit
def mlook (es:List (Int × Int)) (k:Int):Int:=es.foldl (fun v p=>if p.1=k then p.2 else v) 0
def mkeys (es:List (Int × Int)):List Int:=es.foldl (fun l p=>if p.1 ∈ l then l else l ++ [p.1]) []
theorem mapD_snoc (q:IntKind) (es:List (Int × Int)) (p:Int × Int):mapD q (es ++ [p])=(mapD q es).put (.int .i64 p.1) (.lit (.int q p.2)):=by simp [mapD,List.foldl_append]
theorem mlook_snoc (es:List (Int × Int)) (p:Int × Int) (k:Int):mlook (es ++ [p]) k=if p.1=k then p.2 else mlook es k:=by simp [mlook,List.foldl_append]
theorem mkeys_snoc (es:List (Int × Int)) (p:Int × Int):mkeys (es ++ [p])=if p.1 ∈ mkeys es then mkeys es else mkeys es ++ [p.1]:=by
 unfold mkeys
 rw [List.foldl_append]
 rfl
theorem rev_ind {α:Type} {P:List α->Prop} (h0:P []) (h1:∀ l x,P l->P (l ++ [x])) (l:List α):P l:=by
 rw [← List.reverse_reverse l]
 induction l.reverse with
 | nil=>exact h0
 | cons x r ih=>rw [List.reverse_cons]; exact h1 _ _ ih
theorem intKey (k:Int):WideAt.IsKeyLit (.int .i64 k):=by trivial
theorem mapD_tidy (q:IntKind):∀ es:List (Int × Int),Maps.Tidy (mapD q es):=by
 refine rev_ind Maps.tidy_empty fun es p h => ?_
 rw [mapD_snoc]
 exact h.put (intKey _) _
theorem mapD_at (q:IntKind) (k:Int):∀ es:List (Int × Int),(mapD q es).atKey (.int .i64 k) (.lit (.int q 0)) = .lit (.int q (mlook es k)):=by
 refine rev_ind rfl fun es p h => ?_
 rw [mapD_snoc,mlook_snoc]
 split
 ·rename_i e
  rw [e]
  exact Maps.atKey_put_same (mapD_tidy q es).isMap (intKey _) _ _
 ·rename_i e
  rw [Maps.atKey_put_other (fun h=>e (by cases h; rfl))]
  exact h
theorem mapD_has (q:IntKind) (k:Int):∀ es:List (Int × Int),Maps.has (mapD q es) (.int .i64 k)=decide (k ∈ mkeys es):=by
 refine rev_ind rfl fun es p h => ?_
 rw [mapD_snoc,mkeys_snoc]
 by_cases e:p.1=k
 ·rw [e,Maps.has_put_same (mapD_tidy q es).isMap (intKey _)]
  split
  ·rename_i h2; simp [h2]
  ·simp
 ·rw [Maps.has_put_other (fun h=>e (by cases h; rfl)),h]
  split
  ·rfl
  ·have:¬ k=p.1:=fun h=>e h.symm
   simp [this]
theorem mapD_size (q:IntKind):∀ es:List (Int × Int),Maps.size (mapD q es)=(mkeys es).length:=by
 refine rev_ind rfl fun es p h => ?_
 rw [mapD_snoc,mkeys_snoc,Maps.size_put (mapD_tidy q es),mapD_has,h]
 by_cases e:p.1 ∈ mkeys es <;> simp [e]
def qeq:IntKind->IntKind->Bool
 | .i64,.i64=>true
 | .u64,.u64=>true
 | _,_=>false
theorem qeq_eq {a b:IntKind} (h:qeq a b=true):a=b:=by cases a <;> cases b <;> first | rfl | cases h
def onb {α:Type} (b:Bool) (a:Option α):Option α:=match b with | true=>a | false=>none
theorem onb_some {α:Type} {b:Bool} {a:Option α} {r:α} (h:onb b a=some r):b=true/\a=some r:=by cases b <;> first | exact ⟨rfl,h⟩ | cases h
theorem ite_some {α:Type} {p:Prop} [Decidable p] {a:Option α} {r:α} (h:(if p then a else none)=some r):p/\a=some r:=by
 by_cases hp:p
 ·rw [if_pos hp] at h; exact ⟨hp,h⟩
 ·rw [if_neg hp] at h; cases h
def inQ:IntKind->Int->Prop
 | .i64,v=>inI v
 | .u64,v=>0<=v/\v<=9223372036854775807
 | _,_=>False
def evMakeMap (T:Tab) (t:TypeId) (id:Nat):Option Eff :=
 match T.kind t with
 | some (.mp _ _ q)=>some ⟨True,.vec id,[(id,some (.mp t q []))]⟩
 | _=>none
def evLook (P:Program) (T:Tab) (L:Nat->Option OB) (t:TypeId) (x y:AV) (c:Bool):Option VEff :=
 match T.kind t with
 | some (.mp kt et q) =>
  match x,y with
  | .vec b,.lit (.int .i64 k) =>
   match L b with
   | some (.mp t' q' es)=>onb (qeq q' q) (if t'=t then some (inI k,if c then .tup [.lit (.int q (mlook es k)),.lit (.bool (decide (k ∈ mkeys es)))] else .lit (.int q (mlook es k))) else none)
   | _=>none
  | .mz P' kt' et' q' es,.lit (.int .i64 k)=>onb (qeq q' q) (if kt'=kt then if et'=et then some (P'=P/\inI k,if c then .tup [.lit (.int q (mlook es k)),.lit (.bool (decide (k ∈ mkeys es)))] else .lit (.int q (mlook es k))) else none else none)
  | _,_=>none
 | _=>none
def evMapUp (T:Tab) (L:Nat->Option OB) (t:TypeId) (x y z:AV):Option Eff :=
 match T.kind t with
 | some (.mp _ _ q) =>
  match x,y,z with
  | .vec b,.lit (.int .i64 k),.lit (.int q1 v) =>
   match L b with
   | some (.mp t' q' es)=>onb (qeq q' q) (onb (qeq q1 q) (if t'=t then some ⟨inI k/\inQ q v/\es.length < 65536,.any,[(b,some (.mp t q (es ++ [(k,v)])))]⟩ else none))
   | _=>none
  | _,_,_=>none
 | _=>none
def evLenM (T:Tab) (L:Nat->Option OB) (t:TypeId) (x:AV):Option VEff :=
 match T.kind t with
 | some (.mp _ _ _) =>
  match x with
  | .vec b =>
   match L b with
   | some (.mp t' _ es)=>if t'=t then some (True,.lit (.int .i64 (mkeys es).length)) else none
   | _=>none
  | _=>none
 | _=>none
section
variable {C:Ctx} {E:Env} {H:Heap} {w:World} {a:Act} {o:Oper} {id:Nat} {T:Tab}
theorem run_part {P:Program} {t:TypeId} {ti:TI} (h:TOK P t ti) (w:World) (cs:List Value) (off:Nat) (us:List Value) (hl:us.length=ti.size) (hc:∀ k,k < us.length->cs[off + k]? = us[k]?) (h0:off + us.length<=cs.length) :
  (part t cs.toArray off).run P w = .ok (mkVal ti us) w:=by
 unfold part mkVal
 simp only [Sem.run_bind,Result.andThen_ok,h.isAgg w]
 cases ha:ti.k.isAgg with
 | true =>
  have:cs.toArray.extract off (off + ti.size)=us.toArray:=by
   apply Array.ext'
   rw [Array.toList_extract]
   simp only [List.extract_eq_drop_take]
   refine List.ext_getElem? fun k => ?_
   rw [List.getElem?_take]
   by_cases hk:k < us.length
   ·rw [if_pos (by omega),List.getElem?_drop,hc k hk]
   ·rw [if_neg (by omega),List.getElem?_eq_none (by omega)]
  simp only [if_true,Sem.run_bind,h.sizeOf w,Result.andThen_ok,Sem.run_pure,this]
 | false =>
  have h1:us.length=1:=by rw [hl]; exact h.one ha
  have hc0:=hc 0 (by omega)
  simp only [Nat.add_zero,List.getElem?_eq_getElem (show 0 < us.length by omega)] at hc0
  simp [hc0,List.getD,List.getElem?_eq_getElem (show 0 < us.length by omega)]
def evFieldV (T:Tab) (t:TypeId) (i:Nat) (x:AV):Option VEff :=
 match T.kind t,x with
 | some (.struct fs),.agg cs =>
  match fs[i]? with
  | some f =>
   match T f.1 with
   | some fi =>
    match (if 0 < fi.size then nav cs [.fld f.2] else none) with
    | some r =>
     match takeC r.1 fi.size with
     | some cs' =>
      match mkAV fi cs' with
      | some v=>some (r.2,v)
      | none=>none
     | none=>none
    | none=>none
   | none=>none
  | none=>none
 | _,_=>none
theorem evFieldV_sound (hT:Tab.ok C.P T) (h:HeapOK C E H w) {x:Operand} {t:TypeId} {i:Nat} (ho:o.op = .field t x i) {vx:AV} (hx:Rel E true vx (a.eval x)) {r:VEff} (he:evFieldV T t i vx=some r):Good C E H w a o id ⟨r.1,r.2,[]⟩:=by
 refine Good.val h fun hq => ?_
 unfold evFieldV at he
 split at he
 ·rename_i fs cs hk
  obtain ⟨gs,hu,hgs⟩:∃ gs,C.P.underlying t=some (.struct gs)/\gs.toList.map (fun f=>(f.type,f.offset))=fs:=Tab.kind_ok hT hk
  split at he
  ·rename_i f hf
   split at he
   ·rename_i fi hfi
    split at he
    ·rename_i r' hn'
     obtain ⟨hpos,hn⟩:0 < fi.size/\nav cs [.fld f.2]=some r':=by
      split at hn'
      ·exact ⟨‹_›,hn'⟩
      ·cases hn'
     split at he
     ·rename_i cs' ht
      split at he
      ·rename_i v hm
       cases he
       generalize hz:a.eval x=z at hx
       cases hx with
       | agg hl =>
       rename_i us
       obtain ⟨us',hr,hg⟩:=nav_rel (cs':=r'.1) (q:=r'.2) hn hq hl
       obtain ⟨h3,h4⟩:=takeC_rel ht hr
       have hlen:=takeC_len ht hr
       have hp:poff [.fld f.2]=f.2:=rfl
       rw [hp] at hg
       have hfit:f.2 + us'.length<=us.length ∨ us'.length=0:=by
        by_cases h0:us'.length=0
        ·exact .inr h0
        ·left
         have:=hg (us'.length - 1) (by omega)
         rw [List.getElem?_eq_getElem (by omega:us'.length - 1 < us'.length)] at this
         have:=(List.getElem?_eq_some_iff.1 this).1
         omega
       rw [← hgs,List.getElem?_map] at hf
       cases hgi:gs.toList[i]? with
       | none=>rw [hgi] at hf; cases hf
       | some g =>
        rw [hgi] at hf
        cases hf
        have hga:gs[i]? = some g:=by simpa using hgi
        have h0:g.offset + (us'.take fi.size).length<=us.length:=by
         rw [hlen]
         rcases hfit with h5 | h5
         ·have:g.offset + us'.length<=us.length:=h5
          omega
         ·have hz0:fi.size=0:=by omega
          exact absurd hz0 (by omega)
        have hrun:=run_part (hT _ _ hfi) w us g.offset (us'.take fi.size) hlen (fun k hk=>by
         rw [hlen] at hk
         rw [List.getElem?_take,if_pos hk]
         exact hg k (by omega)) h0
        exact ⟨_,by simp [execOp,ho,hz,Instr.field,run_underlying hu,hga,asAgg,hrun],(mkAV_rel hm h3).up⟩
      ·cases he
     ·cases he
    ·cases he
   ·cases he
  ·cases he
 ·cases he
def Env.setMp (E:Env) (id:Nat) (k:Nat):Env:={ E with hdr:=fun i=>if i=id then some (.map (some k)) else E.hdr i,blk:=fun i=>if i=id then some k else E.blk i }
theorem Env.le_setMp {E:Env} {id:Nat} {k:Nat} (h:E.blk id=none) (h':E.hdr id=none):E.le (E.setMp id k) where
 M:=fun _ _ e=>e
 blk:=fun b k' e=>by
  show (if b=id then some k else E.blk b)=some k'
  by_cases e':b=id
  ·subst e'; rw [h] at e; cases e
  ·rw [if_neg e']; exact e
 hdr:=fun b u e=>by
  show (if b=id then some (.map (some k)) else E.hdr b)=some u
  by_cases e':b=id
  ·subst e'; rw [h'] at e; cases e
  ·rw [if_neg e']; exact e
 fns:=rfl
theorem evMakeMap_sound (hT:Tab.ok C.P T) (h:HeapOK C E H w) (hf:E.blk id=none) (hf2:E.hdr id=none) {t:TypeId} (ho:o.op = .makeMap t none) {r:Eff} (he:evMakeMap T t id=some r):Good C E H w a o id r:=by
 unfold evMakeMap at he
 split at he
 ·rename_i kt et q hk
  obtain ⟨hu,huk,hue,_⟩:C.P.underlying t=some (.map kt et)/\_:=Tab.kind_ok hT hk
  cases he
  intro _
  refine ⟨.map (some w.heap.size),w.alloc (.map #[] 0),E.setMp id w.heap.size,.inl ?_,Env.le_setMp hf hf2,?_,.vec id (if_pos rfl) rfl,fun j hj => ?_⟩
  ·simp [execOp,ho,run_makeMap]
  ·refine h.step (row:=none) id _ (Env.le_setMp hf hf2) rfl (fun j hj=>if_neg hj) (World.grownBy_alloc w _ none) (fun k hk=>by cases hk) ?_ ?_
   ·intro k hk j _ hH
    have:(E.setMp id w.heap.size).blk id=some w.heap.size:=if_pos rfl
    rw [this] at hk; cases hk
    exact h.fresh_blk j hH
   ·exact ⟨w.heap.size,kt,et,if_pos rfl,if_pos rfl,C.hA _ h.size,h.fresh_M,hu,huk,hue,World.ownsMap_made w C.P kt _⟩
  ·have:j ≠ id:=by omega
   exact ⟨if_neg this,if_neg this⟩
 ·cases he
theorem int_of {v:AV} {u:Value} {k:Int} {q:IntKind} (h:Rel E true v u) (e:v = .lit (.int q k)):u = .int q k:=by subst e; cases h; rfl
theorem wf_inI {k:Int} (h:inI k):(Lit.int .i64 k).wf=true:=by
 simp only [inI] at h
 simp [Lit.wf,IntKind.min,IntKind.max,IntKind.signed,IntKind.bits]
 omega
theorem wf_inQ {q:IntKind} {k:Int} (h:inQ q k):(Lit.int q k).wf=true:=by
 cases q <;> first | exact h.elim | exact wf_inI h | skip
 replace h:0<=k/\k<=9223372036854775807:=h
 simp [Lit.wf,IntKind.min,IntKind.max,IntKind.signed,IntKind.bits]
 omega
theorem look_run {kt et t:TypeId} {q:IntKind} {kk n:Nat} {es:List (Int × Int)} {k:Int} (hu:C.P.underlying t=some (.map kt et)) (huk:C.P.underlying kt=some (.int .i64)) (hue:C.P.underlying et=some (.int q)) (hz:∀ w,(zeroValue et).run C.P w = .ok (.int q 0) w)
  (hown:w.ownsMap C.P kt (plainElem C.P et) kk n (mapD q es)) (hq:inI k) (c:Bool) :
  ∃ v,(Instr.lookup t (.map (some kk)) (.int .i64 k) c).run C.P w = .ok v w/\Rel E true (if c then .tup [.lit (.int q (mlook es k)),.lit (.bool (decide (k ∈ mkeys es)))] else .lit (.int q (mlook es k))) v:=by
 cases c with
 | false =>
  obtain ⟨c,hrun,hat,_⟩:=hown.lookup_int (Maps.int_keyed huk) hu hue (hz w) (Maps.keyOf_int_mk huk (wf_inI hq))
  rw [mapD_at] at hat
  cases hat
  exact ⟨_,hrun,.lit _⟩
 | true =>
  have hw0:(Lit.int q 0).wf=true:=by cases q <;> decide
  obtain ⟨v,ps,hrun,hv⟩:=hown.look_ok (Maps.int_keyed huk) hu (hz w) (plainElem_int hue hw0) (Maps.keyOf_int_mk huk (wf_inI hq))
  obtain ⟨c,rfl,hc,hwc⟩:=plainElem_int_inv hue hv
  simp only [Prod.mk.injEq] at hc
  have h1:=hc.1
  rw [mapD_at] at h1
  cases h1
  rw [mapD_has] at hrun
  refine ⟨_,hrun,?_⟩
  refine .tup (us:=[.int q (mlook es k),.bool (decide (k ∈ mkeys es))]) rfl fun j => ?_
  rcases j with _ | _ | j
  ·exact .lit _
  ·exact .lit _
  ·exact .any _
theorem evLook_sound (hT:Tab.ok C.P T) (h:HeapOK C E H w) {x y:Operand} {t:TypeId} {c:Bool} (ho:o.op = .lookup t x y c) {vx vy:AV} (hx:Rel E true vx (a.eval x)) (hy:Rel E true vy (a.eval y))
  {L:Nat->Option OB} (hL:∀ b ob,L b=some ob->H b=some ob) {r:VEff} (he:evLook C.P T L t vx vy c=some r):Good C E H w a o id ⟨r.1,r.2,[]⟩:=by
 refine Good.val h fun hq => ?_
 unfold evLook at he
 split at he
 ·rename_i kt et q hk
  obtain ⟨hu,huk,hue,hz⟩:C.P.underlying t=some (.map kt et)/\_:=Tab.kind_ok hT hk
  split at he
  ·rename_i b k
   have hye:=int_of hy rfl
   split at he
   ·rename_i t' q' es hLb
    obtain ⟨hqq,he1⟩:=onb_some he
    cases qeq_eq hqq
    obtain ⟨htt,he2⟩:=ite_some he1
    subst htt
    cases he2
    obtain ⟨kk,kt',et',hh,hb,ha,hM,h1,h2,h3,hown⟩:=h.own b _ (hL _ _ hLb)
    rw [hu] at h1; cases h1
    generalize hxx:a.eval x=ux at hx
    cases hx with
    | vec _ hh' _ =>
    rw [hh] at hh'; cases hh'
    obtain ⟨v,hrun,hr⟩:=look_run (E:=E) hu huk hue hz hown hq c
    exact ⟨v,by simp [execOp,ho,hxx,hye,hrun],hr⟩
   ·cases he
  ·rename_i P' kt' et' q' es k
   have hye:=int_of hy rfl
   obtain ⟨hqq,he1⟩:=onb_some he
   cases qeq_eq hqq
   obtain ⟨hk1,he2⟩:=ite_some he1
   subst hk1
   obtain ⟨hk2,he3⟩:=ite_some he2
   subst hk2
   cases he3
   obtain ⟨rfl,hq⟩:=hq
   generalize hxx:a.eval x=ux at hx
   cases hx with
   | mz b ar cl hM hw =>
    obtain ⟨v,hrun,hr⟩:=look_run (E:=E) hu huk hue hz (hw w (h.mem _ _ hM)) hq c
    exact ⟨v,by simp [execOp,ho,hxx,hye,hrun],hr⟩
  ·cases he
 ·cases he
theorem evMapUp_sound (hT:Tab.ok C.P T) (h:HeapOK C E H w) {x y z:Operand} {t:TypeId} (ho:o.op = .mapUpdate t x y z) {vx vy vz:AV} (hx:Rel E true vx (a.eval x)) (hy:Rel E true vy (a.eval y)) (hz:Rel E true vz (a.eval z))
  {L:Nat->Option OB} (hL:∀ b ob,L b=some ob->H b=some ob) {r:Eff} (he:evMapUp T L t vx vy vz=some r):Good C E H w a o id r:=by
 unfold evMapUp at he
 split at he
 ·rename_i kt et q hk
  obtain ⟨hu,huk,hue,hz0⟩:C.P.underlying t=some (.map kt et)/\_:=Tab.kind_ok hT hk
  split at he
  ·rename_i b k q1 v
   have hye:=int_of hy rfl
   have hze:=int_of hz rfl
   split at he
   ·rename_i t' q' es hLb
    obtain ⟨hqq,he1⟩:=onb_some he
    cases qeq_eq hqq
    obtain ⟨hqq1,he2⟩:=onb_some he1
    cases qeq_eq hqq1
    obtain ⟨htt,he3⟩:=ite_some he2
    subst htt
    cases he3
    rintro ⟨hk1,hv1,hl⟩
    have hHb:=hL _ _ hLb
    obtain ⟨kk,kt',et',hh,hb,ha,hM,h1,h2,h3,hown⟩:=h.own b _ hHb
    rw [hu] at h1; cases h1
    generalize hxx:a.eval x=ux at hx
    cases hx with
    | vec _ hh' _ =>
    rw [hh] at hh'; cases hh'
    obtain ⟨w',hrun,hown',hg⟩:=hown.update (Maps.int_keyed huk) hu (by unfold maxLen; omega) (Maps.keyOf_int_mk huk (wf_inI hk1)) (plainElem_int hue (wf_inQ hv1))
    refine ⟨undef,w',E,.inr ⟨?_,rfl⟩,Env.le.refl E,?_,.any _,fun _ _=>⟨rfl,rfl⟩⟩
    ·simp [execOp,ho,hxx,hye,hze,hrun]
    ·refine h.step (row:=some kk) b _ (Env.le.refl E) rfl (fun _ _=>rfl) hg ?_ ?_ ?_
     ·intro k' hk'
      cases hk'
      exact ⟨ha,hM,fun j hj hHj e=>h.sep j b kk hj hHj (by rw [hHb]; simp) e hb⟩
     ·intro k' hk' j hj hHj e
      exact h.sep j b k' hj hHj (by rw [hHb]; simp) e hk'
     ·refine ⟨kk,kt,et,hh,hb,ha,hM,hu,h2,h3,?_⟩
      rw [mapD_snoc,List.length_append]
      exact hown'
   ·cases he
  ·cases he
 ·cases he
theorem evLenM_sound (hT:Tab.ok C.P T) (h:HeapOK C E H w) {x:Operand} {t:TypeId} (ho:o.op = .call { callee := .builtin .len,args := #[x],argTypes := #[t] }) {vx:AV} (hx:Rel E true vx (a.eval x))
  {L:Nat->Option OB} (hL:∀ b ob,L b=some ob->H b=some ob) {r:VEff} (he:evLenM T L t vx=some r):Good C E H w a o id ⟨r.1,r.2,[]⟩:=by
 refine Good.val h fun hq => ?_
 unfold evLenM at he
 split at he
 ·rename_i kt et q hk
  obtain ⟨hu,huk,hue,hz⟩:C.P.underlying t=some (.map kt et)/\_:=Tab.kind_ok hT hk
  split at he
  ·rename_i b
   split at he
   ·rename_i t' q' es hLb
    split at he
    ·rename_i htt
     subst htt
     cases he
     obtain ⟨kk,kt',et',hh,hb,ha,hM,h1,h2,h3,hown⟩:=h.own b _ (hL _ _ hLb)
     rw [hu] at h1; cases h1
     generalize hxx:a.eval x=ux at hx
     cases hx with
     | vec _ hh' _ =>
     rw [hh] at hh'; cases hh'
     have:=hown.len hu o.type
     rw [mapD_size] at this
     exact ⟨_,by simp [execOp,ho,resolve,invoke,builtin,hxx,this],.lit _⟩
    ·cases he
   ·cases he
  ·cases he
 ·cases he
end
end Go.Ab
namespace Go.Ab
open Go Go.RowKit
def evLenX (T:Tab) (L:Nat->Option OB) (t:TypeId) (x:AV):Option VEff :=
 match T.kind t,x with
 | some (.slice _),.vec b =>
  match L b with
  | some (.vecx _ _ n _ _ _)=>some (True,.lit (.int .i64 (n:Int)))
  | _=>none
 | _,_=>none
def evIndexX (T:Tab) (L:Nat->Option OB) (t:TypeId) (x ix:AV):Option VEff :=
 match ix,T.kind t,x with
 | .lit (.int .i64 i),some (.slice e),.vec b =>
  match T e,L b with
  | some ei,some (.vecx _ sz n _ _ _)=>if ei.size=sz then some (0<=i/\i < n,.vp b i.toNat sz []) else none
  | _,_=>none
 | _,_,_=>none
def evLoadX (T:Tab) (L:Nat->Option OB) (t:TypeId) (x:AV):Option VEff :=
 match T t,x with
 | some ti,.vp b i sz p =>
  match L b with
  | some (.vecx _ sz' n _ j fj) =>
   if sz=sz' then
    match nav fj p with
    | some r =>
     match takeC r.1 ti.size with
     | some cs' =>
      match mkAV ti cs' with
      | some v=>some (i=j/\i < n/\r.2,v)
      | none=>none
     | none=>none
    | none=>none
   else none
  | _=>none
 | _,_=>none
def evStoreX (T:Tab) (L:Nat->Option OB) (t:TypeId) (x y:AV):Option Eff :=
 match T t,cellsAV y,x with
 | some ti,some vs,.vp b i sz p =>
  if clen vs=ti.size then
   match L b with
   | some (.vecx ty sz' n f j fj) =>
    if sz=sz' then
     match setP fj p vs with
     | some (c',q,false)=>some ⟨i=j/\i < n/\q,.lit undef,[(b,some (.vecx ty sz n f j c'))]⟩
     | _=>none
    else none
   | _=>none
  else none
 | _,_,_=>none
def evBuildX (T:Tab) (t:TypeId) (n:Nat) (parts:List (Nat × AV)) (id:Nat):Option Eff :=
 match T.kind t,parts with
 | some (.slice e),[(0,v)] =>
  match T e,cellsAV v with
  | some ei,some cs=>if n=1/\0 < ei.size/\ei.size<=16777216/\clen cs=ei.size then some ⟨True,.vec id,[(id,some (.vecx e ei.size 1 (fun _=>[]) 0 cs))]⟩ else none
  | _,_=>none
 | _,_=>none
def evAppendX (T:Tab) (L:Nat->Option OB) (t:TypeId) (x y:AV) (id:Nat) (foc:Bool):Option Eff :=
 match T.kind t with
 | some (.slice e) =>
  match T e with
  | some ei =>
   if 0 < ei.size/\ei.bytes<=2147483648 then
    match foc with
    | false =>
     match x,srcOf L y with
     | .vec b,some (sz,m,g) =>
      match L b with
      | some (.vecx e' sz' n f j fj)=>if sz=ei.size/\sz'=ei.size/\e'=e/\isVecOf y b=false then some ⟨n + m<=65536/\(j < n ∨ n + m<=j),.vec id,[(b,none),(id,some (.vecx e sz (n + m) (catF n f g) j fj))]⟩ else none
      | _=>none
     | _,_=>none
    | true =>
     match x,y with
     | .vec b,.vec c =>
      match L b,L c with
      | some (.vecx e' sz' n f j fj),some (.vecx e2 sz2 1 _ 0 cs)=>if sz2=ei.size/\sz'=ei.size/\e'=e/\e2=e/\b ≠ c then some ⟨n + 1<=65536/\j=n,.vec id,[(b,none),(c,none),(id,some (.vecx e sz2 (n + 1) f j cs))]⟩ else none
      | _,_=>none
     | _,_=>none
   else none
  | none=>none
 | _=>none
section
variable {C:Ctx} {E:Env} {H:Heap} {w:World} {a:Act} {o:Oper} {id:Nat} {T:Tab}
theorem evLenX_sound (hT:Tab.ok C.P T) (h:HeapOK C E H w) {x:Operand} {t:TypeId} (ho:o.op = .call { callee := .builtin .len,args := #[x],argTypes := #[t] }) {vx:AV} (hx:Rel E true vx (a.eval x))
  {L:Nat->Option OB} (hL:∀ b ob,L b=some ob->H b=some ob) {r:VEff} (he:evLenX T L t vx=some r):Good C E H w a o id ⟨r.1,r.2,[]⟩:=by
 refine Good.val h fun hq => ?_
 unfold evLenX at he
 split at he
 ·rename_i e b hk
  have hu:C.P.underlying t=some (.slice e):=Tab.kind_ok hT hk
  split at he
  ·rename_i ty sz n f j fj hLb
   cases he
   obtain ⟨hd,g,hh,hown,_⟩:=h.own b _ (hL _ _ hLb)
   generalize hzz:a.eval x=z at hx
   have key:∀ (ad:Option Addr) (n cap:Nat),a.eval x = .slice ad n cap->(execOp a.eval o).run C.P w = .ok (.value (.int .i64 (n:Int))) w:=by
    intro ad n cap hxx
    simp [execOp,ho,resolve,invoke,builtin,Builtin.len_,hxx,run_underlying hu,goInt]
   cases hx with
   | vec _ hh' _ =>
    rw [hh] at hh'
    cases hh'
    rcases ownsRow_form hown with ⟨hv,hn⟩ | ⟨k,cap,hv,_⟩
    ·subst hv; subst hn; exact ⟨_,key _ _ _ hzz,.lit _⟩
    ·subst hv; exact ⟨_,key _ _ _ hzz,.lit _⟩
  ·cases he
 ·cases he
theorem evIndexX_sound (hT:Tab.ok C.P T) (h:HeapOK C E H w) {x ix:Operand} {t:TypeId} (ho:o.op = .indexAddr t x ix) {vx vi:AV} (hx:Rel E true vx (a.eval x)) (hi:Rel E true vi (a.eval ix))
  {L:Nat->Option OB} (hL:∀ b ob,L b=some ob->H b=some ob) {r:VEff} (he:evIndexX T L t vx vi=some r):Good C E H w a o id ⟨r.1,r.2,[]⟩:=by
 refine Good.val h fun hq => ?_
 unfold evIndexX at he
 split at he
 ·rename_i i e b hk
  have e1:a.eval ix = .int .i64 i:=by generalize a.eval ix=u at hi; cases hi; rfl
  have hu:C.P.underlying t=some (.slice e):=Tab.kind_ok hT hk
  split at he
  ·rename_i ei ty sz n f j fj hei hLb
   have hE:=hT _ _ hei
   split at he
   ·rename_i hs
    cases he
    obtain ⟨hd,g,hh,hown,_⟩:=h.own b _ (hL _ _ hLb)
    generalize hzz:a.eval x=z at hx
    cases hx with
    | vec _ hh' _ =>
     rw [hh] at hh'
     cases hh'
     rcases ownsRow_form hown with ⟨hv,hn⟩ | ⟨k,cap,hv,_⟩
     ·subst hn; exact absurd hq (by omega)
     ·subst hv
      refine ⟨_,by simp [execOp,ho,hzz,e1,run_indexAt_slice hu hE w k 0 n cap i hq.1 hq.2,Result.andThen]; rfl,?_⟩
      have:=Rel.vp (E:=E) b i.toNat sz [] hh
      simpa [poff,hs] using this
   ·cases he
  ·cases he
 ·cases he
theorem evLoadX_sound (hT:Tab.ok C.P T) (h:HeapOK C E H w) {x:Operand} {t:TypeId} (ho:o.op = .load t x) {vx:AV} (hx:Rel E true vx (a.eval x))
  {L:Nat->Option OB} (hL:∀ b ob,L b=some ob->H b=some ob) {r:VEff} (he:evLoadX T L t vx=some r):Good C E H w a o id ⟨r.1,r.2,[]⟩:=by
 refine Good.val h fun hq => ?_
 unfold evLoadX at he
 split at he
 ·rename_i ti b i sz p hti
  have hTI:=hT t ti hti
  split at he
  ·rename_i ty sz' n f j fj hLb
   split at he
   ·rename_i hsz
    subst hsz
    split at he
    ·rename_i r' hn
     split at he
     ·rename_i cs' ht
      split at he
      ·rename_i v hm
       cases he
       obtain ⟨rfl,hin,hq'⟩:=hq
       obtain ⟨hd,g,hh,hown,hg,_,hgj,_,_⟩:=h.own b _ (hL _ _ hLb)
       generalize hzz:a.eval x=z at hx
       cases hx with
       | vp _ _ _ _ hb =>
       rename_i k n' c
       rw [hh] at hb
       cases hb
       obtain ⟨us',hr,hgt⟩:=nav_rel (cs':=r'.1) (q:=r'.2) hn hq' (hgj hin)
       obtain ⟨h3,h4⟩:=takeC_rel ht hr
       have hl:=takeC_len ht hr
       refine ⟨mkVal ti (us'.take ti.size),?_,mkAV_rel hm h3⟩
       have hcell:∀ k',k' < (us'.take ti.size).length->w.cell? ⟨k,i * sz + poff p + k',none⟩=(us'.take ti.size)[k']? := by
        intro k' hk'
        rw [hl] at hk'
        rw [List.getElem?_take,if_pos hk',← hgt k' (by omega)]
        have hlt:k' < us'.length:=by omega
        have hsome:=hgt k' hlt
        rw [List.getElem?_eq_getElem hlt] at hsome
        have hlt2:poff p + k' < (g i).length:=(List.getElem?_eq_some_iff.1 hsome).1
        rw [hg i hin] at hlt2
        have:=flat_get g sz n hg i (poff p + k') hin hlt2
        have hc:=hown.cells (g:=k) rfl (i * sz + (poff p + k')) us'[k'] (by rw [this,hsome])
        rw [addr_add,Nat.zero_add] at hc
        rw [hsome,Nat.add_assoc]
        exact hc
       have:=run_loadAt hTI w k (i * sz + poff p) (us'.take ti.size) hl hcell
       simp [execOp,ho,hzz,this]
      ·cases he
     ·cases he
    ·cases he
   ·cases he
  ·cases he
 ·cases he
theorem evStoreX_sound (hT:Tab.ok C.P T) (h:HeapOK C E H w) {x y:Operand} {t:TypeId} (ho:o.op = .store t x y) {vx vy:AV} (hx:Rel E true vx (a.eval x)) (hy:Rel E true vy (a.eval y))
  {L:Nat->Option OB} (hL:∀ b ob,L b=some ob->H b=some ob) {r:Eff} (he:evStoreX T L t vx vy=some r):Good C E H w a o id r:=by
 unfold evStoreX at he
 split at he
 ·rename_i ti vs b i sz p hti hc
  have hTI:=hT t ti hti
  have hcr:=cellsAV_rel hc hy
  split at he
  ·rename_i hlen
   have hvl:(a.eval y).cells.toList.length=ti.size:=by rw [hcr.length,hlen]
   split at he
   ·rename_i ty sz' n f j fj hLb
    split at he
    ·rename_i hsz
     subst hsz
     split at he
     ·rename_i c' q hs
      cases he
      rintro ⟨rfl,hi,hq⟩
      obtain ⟨hd,g,hh,hown,hg,hgr,hgj,hbk,hav⟩:=h.own b _ (hL _ _ hLb)
      rcases ownsRow_form hown with ⟨hv,hn⟩ | ⟨k,cap,hv,hnc,hcm,us,hw,hul,htk⟩
      ·subst hn; omega
      ·subst hv
       obtain ⟨ha,hM⟩:=hav k rfl
       have hxx:a.eval x = .pointer (some ⟨k,i * sz + poff p,none⟩):=by
        generalize a.eval x=z at hx
        cases hx with
        | vp _ _ _ _ hb=>rw [hh] at hb; cases hb; rfl
       obtain ⟨h1,h2⟩:=setP_rel hcr hs hq (fun hd=>by cases hd) (hgj hi)
       have hin:i * sz + sz<=n * sz:=by
        have:(i + 1) * sz<=n * sz:=Nat.mul_le_mul_right _ hi
        rw [Nat.add_mul] at this; omega
       have hnm:n * sz<=cap * sz:=Nat.mul_le_mul_right _ hnc
       rw [hg i hi] at h2
       have hle:i * sz + poff p + (a.eval y).cells.toList.length<=us.length:=by rw [hul]; omega
       have hrun:(execOp a.eval o).run C.P w = .ok .skip (w.setRow k (ovw us (i * sz + poff p) (a.eval y).cells.toList).toArray):=by
        have:=run_storeAt hTI w k (i * sz + poff p) ty us _ (a.eval y) rfl hvl hw hle hcr.oneCell
        simp [execOp,ho,hxx,this]
       refine ⟨undef,_,E,.inr ⟨hrun,rfl⟩,Env.le.refl E,?_,.lit _,fun _ _=>⟨rfl,rfl⟩⟩
       refine h.setVec b k (by rw [hL _ _ hLb]; simp) hbk ha hM (grownBy_setRow w k _) _ ?_
       let g':Nat->List Value:=fun m=>if m=i then ovw (g i) (poff p) (a.eval y).cells.toList else g m
       have hg':∀ m,m < n->(g' m).length=sz:=by
        intro m hm
        show (if m=i then _ else _:List Value).length=sz
        by_cases ej:m=i
        ·rw [if_pos ej,ovw_length _ _ _ (by rw [hg i hi]; exact h2),hg i hi]
        ·rw [if_neg ej]; exact hg m hm
       have hfl:=flat_length g sz n hg
       have hflat:(List.range n).flatMap g'=ovw ((List.range n).flatMap g) (i * sz + poff p) (a.eval y).cells.toList:=ovw_flat hg hi (by omega)
       refine ⟨_,g',hh,⟨by rw [flat_length g' sz n hg'],.inr ⟨k,cap,_,rfl,Nat.zero_le _,setRow_heap w k _ _ ty (0,0) hw,hnc,hcm,?_,?_⟩⟩,hg',?_,?_,hbk,fun k' hk'=>hav k' hk'⟩
       ·rw [← hul]
        simpa using ovw_length us _ _ hle
       ·rw [hflat]
        have hus:us=us.take (n * sz) ++ us.drop (n * sz):=(List.take_append_drop _ _).symm
        rw [htk] at hus
        rw [hus,ovw_append_left _ _ _ _ (by rw [hfl]; omega)]
        have hlo:(ovw ((List.range n).flatMap g) (i * sz + poff p) (a.eval y).cells.toList).length=n * sz:=by rw [ovw_length _ _ _ (by rw [hfl]; omega),hfl]
        simp [← hlo]
       ·intro m hm hmi
        have:g' m=g m:=if_neg hmi
        rw [this]; exact hgr m hm hmi
       ·intro _
        have:g' i=ovw (g i) (poff p) (a.eval y).cells.toList:=if_pos rfl
        rw [this]; exact h1
     ·cases he
    ·cases he
   ·cases he
  ·cases he
 ·cases he
theorem evBuildX_sound (hT:Tab.ok C.P T) (h:HeapOK C E H w) (hf:E.blk id=none) (hf2:E.hdr id=none) {t:TypeId} {n:Nat} {parts:Array (Nat × Operand)} (ho:o.op = .buildSlice t n parts)
  {vals:List (Nat × AV)} (hl:vals.length=parts.size) (hv:∀ (k:Nat) p q,vals[k]? = some p->parts.toList[k]? = some q->p.1=q.1/\Rel E true p.2 (a.eval q.2)) {r:Eff} (he:evBuildX T t n vals id=some r):Good C E H w a o id r:=by
 unfold evBuildX at he
 split at he
 ·rename_i e v hk
  have hu:C.P.underlying t=some (.slice e):=Tab.kind_ok hT hk
  split at he
  ·rename_i ei cs hei hc
   have hE:=hT _ _ hei
   split at he
   ·rename_i hcond
    obtain ⟨rfl,hpos,hbig,hcl⟩:=hcond
    cases he
    intro _
    obtain ⟨q,hq⟩:∃ q,parts.toList = [q]:=by
     have hsz:parts.toList.length=1:=by simpa using hl.symm
     match hp:parts.toList,hsz with
     | [q],_=>exact ⟨q,rfl⟩
    have hvq:=hv 0 (0,v) q rfl (by rw [hq]; rfl)
    have hcr:=cellsAV_rel hc hvq.2
    have hlen:(a.eval q.2).cells.toList.length=ei.size:=by rw [hcr.length,hcl]
    obtain ⟨i,z,hi,hs,_,hz,hzs,_⟩:=hE.info
    have hzv:(zeroValue e).run C.P w = .ok z w:=by simp [zeroValue,typeInfo,hi,hz]
    have hpz:(parts.map fun p=>(p.1,a.eval p.2)).toList = [(0,a.eval q.2)]:=by
     rw [Array.toList_map,hq]
     simp [← hvq.1]
    have hrun:(execOp a.eval o).run C.P w = .ok (.value (.slice (some ⟨w.heap.size,0,none⟩) 1 1)) (w.alloc (.cells (a.eval q.2).cells.toList.toArray e)):=by
     have hfl:∀ zs:Array Value,zs.size=1 * ei.size->Instr.fill (fun i=>some (i * ei.size,ei.size)) zs [(0,a.eval q.2)]=some (a.eval q.2).cells.toList.toArray:=by
      intro zs hzs
      have:=fillSeq ei.size [a.eval q.2] 0 zs.toList (fun v hv=>by rw [List.mem_singleton] at hv; rw [hv,← Array.length_toList,hlen]) (by rw [Array.length_toList,hzs]; simp)
      simpa using this
     have hbig':¬ (1 * ei.size > 2 ^ 24):=by
      have:(2:Nat) ^ 24=16777216:=by decide
      omega
     have hb:(Instr.buildSlice t 1 (parts.map fun p=>(p.1,a.eval p.2))).run C.P w = .ok (.slice (some ⟨w.heap.size,0,none⟩) 1 1) (w.alloc (.cells (a.eval q.2).cells.toList.toArray e)):=by
      unfold Instr.buildSlice
      simp only [Sem.run_bind,run_underlying hu,Result.andThen_ok,hE.sizeOf w]
      rw [if_neg hbig',hpz]
      have h0:¬ (1 * ei.size=0):=by omega
      simp only [h0,if_false,Sem.run_bind,Sem.run_pure,Result.andThen_ok,hzv]
      rw [hfl _ (by simp)]
      simp [newRow]
     simp [execOp,ho,hb]
    refine ⟨_,_,E.setHdr id (.slice (some ⟨w.heap.size,0,none⟩) 1 1),.inl hrun,Env.le_setHdr hf hf2,?_,.vec id (setHdr_self _ _ _) rfl,fun j hj=>⟨setHdr_other _ _ _ _ (by omega),if_neg (by omega)⟩⟩
    have le:=Env.le_setHdr (E:=E) (id:=id) (v := .slice (some ⟨w.heap.size,0,none⟩) 1 1) hf hf2
    refine h.step (row:=none) id _ le rfl (fun j hj=>setHdr_other _ _ _ _ hj) (World.grownBy_alloc w _ none) (fun k hk=>by cases hk) ?_ ?_
    ·intro k hk j _ hHj e'
     rw [setHdr_blk] at hk
     cases hk
     exact h.fresh_blk j hHj e'
    ·refine ⟨_,fun _=>(a.eval q.2).cells.toList,setHdr_self _ _ _,⟨by simp [hlen],.inr ⟨w.heap.size,1,_,rfl,Nat.zero_le _,heap_alloc_new w _,Nat.le_refl _,by unfold maxLen; omega,by simpa using hlen,?_⟩⟩,fun _ _=>hlen,fun i hi hne=>absurd hi (by omega),fun _=>hcr.mono le,setHdr_blk _ _ _,fun k hk => ?_⟩
     ·have:(List.range 1).flatMap (fun _=>(a.eval q.2).cells.toList)=(a.eval q.2).cells.toList:=by simp [List.range_succ]
      rw [this,Nat.one_mul,← hlen,List.take_of_length_le (Nat.le_refl _)]
     ·cases hk
      exact ⟨C.hA _ h.size,h.fresh_M⟩
   ·cases he
  ·cases he
 ·cases he
theorem HeapOK.newVecx {H:Heap} {w':World} (h:HeapOK C E H w) (id:Nat) (h1:E.blk id=none) (h2:E.hdr id=none) (row:Option Nat) (hg:w.grownBy w' row)
  (hrow:∀ k,row=some k->C.avail k/\E.M k=none /\ ∀ j,H j ≠ none->E.blk j ≠ some k)
  (t:TypeId) (sz n:Nat) (f:Nat->List AV) (j:Nat) (fj:List AV) (v:Value) (g:Nat->List Value) (ho:w'.ownsRow 0 t sz v n ((List.range n).flatMap g)) (hl:∀ i,i < n->(g i).length=sz) (hr:∀ i,i < n->i ≠ j->RelL E false (f i) (g i)) (hj:j < n->RelL E true fj (g j))
  (hv:∀ k,v.ownBlock=some k->row=some k ∨ w.heap.size<=k) :
  HeapOK C (E.setHdr id v) (H.put id (some (.vecx t sz n f j fj))) w':=by
 have le:=Env.le_setHdr (v:=v) h1 h2
 refine h.step id _ le rfl (fun j hj=>setHdr_other _ _ _ _ hj) hg (fun k hk=>⟨(hrow k hk).1,(hrow k hk).2.1,fun j _=>(hrow k hk).2.2 j⟩) ?_ ?_
 ·intro k hk j _ hHj e
  rw [setHdr_blk] at hk
  rcases hv k hk with hr' | hlt
  ·exact (hrow k hr').2.2 j hHj e
  ·cases e':H j with
   | none=>exact hHj e'
   | some ob=>exact absurd (OwnOB.blk_lt h.mem (h.own j ob e') e) (by omega)
 ·refine ⟨v,g,setHdr_self _ _ _,ho,hl,fun i hi hij=>(hr i hi hij).mono le,fun h=>(hj h).mono le,setHdr_blk _ _ _,fun k hk => ?_⟩
  rcases hv k hk with hr' | hlt
  ·exact ⟨(hrow k hr').1,(hrow k hr').2.1⟩
  ·refine ⟨C.hA k (Nat.le_trans h.size hlt),?_⟩
   show E.M k=none
   cases e':E.M k with
   | none=>rfl
   | some o=>exact absurd (Array.getElem?_eq_some_iff.1 (h.mem _ _ e')).1 (by omega)
theorem evAppendX_sound (hT:Tab.ok C.P T) (h:HeapOK C E H w) (hf:E.blk id=none) (hf2:E.hdr id=none) {x y:Operand} {t:TypeId} (ho:o.op = .call { callee := .builtin .append,args := #[x,y],argTypes := #[t,t] })
  {vx vy:AV} (hx:Rel E true vx (a.eval x)) (hy:Rel E true vy (a.eval y)) {L:Nat->Option OB} (hL:∀ b ob,L b=some ob->H b=some ob) {foc:Bool} {r:Eff} (he:evAppendX T L t vx vy id foc=some r):Good C E H w a o id r:=by
 unfold evAppendX at he
 split at he
 ·rename_i e hk
  have hu:C.P.underlying t=some (.slice e):=Tab.kind_ok hT hk
  split at he
  ·rename_i ei hei
   split at he
   ·rename_i hcond
    obtain ⟨hpos,hby⟩:=hcond
    have hexec:∀ (v':Value) (w':World),(Builtin.append_ #[t,t] o.type #[a.eval x,a.eval y]).run C.P w = .ok v' w'->(execOp a.eval o).run C.P w = .ok (.value v') w':=by
     intro v' w' hr
     simp [execOp,ho,resolve,invoke,builtin,hr]
    split at he
    ·split at he
     ·rename_i b sz m g hs
      split at he
      ·rename_i e' sz' n f j fj hLb
       split at he
       ·rename_i hc0
        obtain ⟨rfl,rfl,rfl,_⟩:=hc0
        cases he
        rintro ⟨hq,hjn⟩
        obtain ⟨ad,cap,l,hyy,hn,hl,hrl,hc⟩:=srcOf_rel h hL hs hy
        obtain ⟨hd,k,hh,hown,hkl,hkr,hkj,hbk0,hav⟩:=h.own b _ (hL _ _ hLb)
        have hxx:a.eval x=hd:=by
         generalize a.eval x=z at hx
         cases hx with
         | vec _ hh' _=>rw [hh] at hh'; cases hh'; rfl
        obtain ⟨v',w',hr,how,hg,hbk⟩:=append_core hT hu hei hpos hby hown hn hl (fun i hi=>(hrl i hi).oneCell) hc hq o.type
        refine ⟨v',w',_,.inl (hexec v' w' (by rw [hxx,hyy]; exact hr)),Env.le_setHdr hf hf2,?_,.vec id (setHdr_self _ _ _) (oneCell_ownsRow how),fun j hj=>⟨setHdr_other _ _ _ _ (by omega),if_neg (by omega)⟩⟩
        have hdrop:HeapOK C E (H.put b none) w:=h.drop (fun i ob hi=>by
         unfold Heap.put at hi
         split at hi
         ·cases hi
         ·exact hi)
        refine hdrop.newVecx id hf hf2 hd.ownBlock hg (fun j hj=>⟨(hav j hj).1,(hav j hj).2,fun c hcH hcb => ?_⟩) e' _ (n + m) _ j fj v' (fun j=>if j < n then k j else l (j - n)) (by rw [cat_flat]; exact how) (cat_len hkl hl) ?_ ?_ hbk
        ·have hne:c ≠ b:=fun ec=>hcH (by rw [ec]; exact if_pos rfl)
         have hcH':H c ≠ none:=by
          have:(H.put b none) c=H c:=if_neg hne
          rw [this] at hcH; exact hcH
         exact h.sep c b j hne hcH' (by rw [hL _ _ hLb]; simp) hcb (by rw [hbk0]; exact hj)
        ·intro i hi hij
         unfold catF
         split
         ·exact hkr i ‹_› hij
         ·exact hrl _ (by omega)
        ·intro hj
         have hjl:j < n:=by omega
         rw [if_pos hjl]
         exact hkj hjl
       ·cases he
      ·cases he
     ·cases he
    ·split at he
     ·rename_i b c
      split at he
      ·rename_i e' sz' n f j fj e2 sz2 f2 cs hLb hLc
       split at he
       ·rename_i hc0
        obtain ⟨rfl,rfl,rfl,rfl,hbc⟩:=hc0
        cases he
        rintro ⟨hq,rfl⟩
        obtain ⟨hd,k,hh,hown,hkl,hkr,hkj,hbk0,hav⟩:=h.own b _ (hL _ _ hLb)
        obtain ⟨hd2,k2,hh2,hown2,hkl2,_,hkj2,hbk2,hav2⟩:=h.own c _ (hL _ _ hLc)
        have hxx:a.eval x=hd:=by
         generalize a.eval x=z at hx
         cases hx with
         | vec _ hh' _=>rw [hh] at hh'; cases hh'; rfl
        have hyy:a.eval y=hd2:=by
         generalize a.eval y=z at hy
         cases hy with
         | vec _ hh' _=>rw [hh2] at hh'; cases hh'; rfl
        have hrj:=hkj2 (by omega)
        rcases ownsRow_form hown2 with ⟨_,h0⟩ | ⟨kc,cap2,rfl,hnc2,_,us2,hw2,hul2,hut2⟩
        ·omega
        obtain ⟨v',w',hr,how,hg,hbk⟩:=append_core (m:=1) (l:=k2) (ad:=some ⟨kc,0,none⟩) (cap:=cap2) hT hu hei hpos hby hown (fun e=>by cases e) hkl2 (fun i hi=>by
         have:i=0:=by omega
         subst this; exact hrj.oneCell) (fun x' hx' j' y' hj'=>by
          cases hx'
          exact hown2.cells (g:=kc) rfl j' y' hj') hq o.type
        refine ⟨v',w',_,.inl (hexec v' w' (by rw [hxx,hyy]; exact hr)),Env.le_setHdr hf hf2,?_,.vec id (setHdr_self _ _ _) (oneCell_ownsRow how),fun j hj=>⟨setHdr_other _ _ _ _ (by omega),if_neg (by omega)⟩⟩
        have hdrop:HeapOK C E ((H.put b none).put c none) w:=h.drop (fun i ob hi=>by
         unfold Heap.put at hi
         split at hi
         ·cases hi
         ·split at hi
          ·cases hi
          ·exact hi)
        refine hdrop.newVecx id hf hf2 hd.ownBlock hg (fun jj hj=>⟨(hav jj hj).1,(hav jj hj).2,fun d hdH hdb => ?_⟩) _ _ (j + 1) f j cs v' (fun i=>if i < j then k i else k2 (i - j)) (by rw [cat_flat]; exact how) (cat_len hkl hkl2) ?_ ?_ hbk
        ·have hne:d ≠ b:=fun ec=>hdH (by
          rw [ec]
          unfold Heap.put
          by_cases e3:b=c
          ·exact absurd e3 hbc
          ·rw [if_neg e3,if_pos rfl])
         have hdH':H d ≠ none:=by
          intro e3
          apply hdH
          unfold Heap.put
          by_cases e4:d=c
          ·rw [if_pos e4]
          ·rw [if_neg e4,if_neg hne]; exact e3
         exact h.sep d b jj hne hdH' (by rw [hL _ _ hLb]; simp) hdb (by rw [hbk0]; exact hj)
        ·intro i hi hij
         have hlt:i < j:=by omega
         rw [if_pos hlt]
         exact hkr i hlt hij
        ·intro _
         rw [if_neg (Nat.lt_irrefl j),Nat.sub_self]
         exact hrj
       ·cases he
      ·cases he
     ·cases he
   ·cases he
  ·cases he
 ·cases he
end
end Go.Ab
namespace Go.Ab
open Go Go.RowKit
section
variable {C:Ctx} {E:Env} {H:Heap} {w:World} {a:Act} {o:Oper} {id:Nat} {T:Tab}
def evVWin (T:Tab) (L:Nat->Option OB) (t:TypeId) (x lo:AV):Option VEff :=
 match T.kind t,x,lo with
 | some (.slice e),.vec b,.lit (.int .i64 l) =>
  match T e,L b with
  | some ei,some (.vec _ sz n _)=>if ei.size=sz then some (0<=l/\l < n,.win b [.idx l.toNat sz] sz (n - l.toNat)) else none
  | _,_=>none
 | _,_,_=>none
theorem evVWin_sound (hT:Tab.ok C.P T) (h:HeapOK C E H w) {x lo:Operand} {t:TypeId} (ho:o.op = .slice t x (some lo) none none) {vx vl:AV} (hx:Rel E true vx (a.eval x)) (hl:Rel E true vl (a.eval lo))
  {L:Nat->Option OB} (hL:∀ b ob,L b=some ob->H b=some ob) {r:VEff} (he:evVWin T L t vx vl=some r):Good C E H w a o id ⟨r.1,r.2,[]⟩:=by
 refine Good.val h fun hq => ?_
 unfold evVWin at he
 split at he
 ·rename_i e b l hk
  have hu:C.P.underlying t=some (.slice e):=Tab.kind_ok hT hk
  split at he
  ·rename_i ei ty sz n f hei hLb
   split at he
   ·rename_i hs
    cases he
    obtain ⟨h0,h1⟩:=hq
    obtain ⟨hd,g,hh,hown,hg,hf,hbk,hav⟩:=h.own b _ (hL _ _ hLb)
    rcases ownsRow_form hown with ⟨hv,hn⟩ | ⟨k,cap,hv,hnc,hcm,us,hw,hul,htk⟩
    ·omega
    ·subst hv
     have hxe:a.eval x = .slice (some ⟨k,0,none⟩) n cap:=by
      generalize a.eval x=z at hx
      cases hx with
      | vec _ hh' _=>rw [hh] at hh'; cases hh'; rfl
     have hle:a.eval lo = .int .i64 l:=by
      generalize a.eval lo=z at hl
      cases hl; rfl
     have hrun:=run_slice_gen (P:=C.P) hu (hT _ _ hei) w (some ⟨k,0,none⟩) n cap l n (some (.int .i64 l)) none (.inl rfl) (.inr ⟨rfl,rfl⟩) h0 (by omega) (by omega) hnc
     rw [if_neg (show ¬ cap=l.toNat by omega),Option.map_some,addr_add,hs] at hrun
     refine ⟨.slice (some ⟨k,0 + l.toNat * sz,none⟩) ((n:Int).toNat - l.toNat) (cap - l.toNat),?_,?_⟩
     ·simp only [execOp,ho,hxe,hle,Option.map_some,Option.map_none,Sem.run_bind,hrun,Result.andThen_ok,Sem.run_pure]
     ·have:(0 + l.toNat * sz)=poff [.idx l.toNat sz]:=by simp [poff]
      rw [this,Int.toNat_natCast]
      exact .win b [.idx l.toNat sz] sz (n - l.toNat) hbk ⟨by omega,by rw [capP_one]; exact Nat.zero_le _,fun hc=>absurd (capP_one _) hc⟩
   ·cases he
  ·cases he
 ·cases he
def evClear (T:Tab) (L:Nat->Option OB) (t:TypeId) (x:AV):Option Eff :=
 match T.kind t,x with
 | some (.slice e),.win b [.idx l sz] sz' m =>
  match T e,L b with
  | some ei,some (.vec ty sz2 n f)=>if ei.size=sz2/\sz'=sz2/\sz=sz2/\0 < sz2 then some ⟨l + m=n/\0 < m,.any,[(b,some (.vec ty sz2 n (fun j=>if j < l then f j else ei.za)))]⟩ else none
  | _,_=>none
 | _,_=>none
theorem run_clear_win {P:Program} {t e:TypeId} {ei:TI} (hu:P.underlying t=some (.slice e)) (hz:∃ z:Value,(∀ w,(zeroValue e).run P w = .ok z w)/\z.cells.size=ei.size /\ ∀ v ∈ z.cells.toList,v.oneCell'=true) (hp:0 < ei.size) (w:World) (ty2:TypeId) (k o m cap:Nat) (us:List Value) (ty:TypeId)
  (hw:w.heap[k]? = some (.cells us.toArray ty (0,0))) (hm:0 < m) (hfit:o + m * ei.size<=us.length) :
  ∃ z:Value,(∀ w,(zeroValue e).run P w = .ok z w)/\z.cells.size=ei.size/\(Builtin.clear_ #[t] ty2 #[.slice (some ⟨k,o,none⟩) m cap]).run P w = .ok (.tuple #[]) (w.setRow k (ovw us o (Builtin.zeroCells z.cells m).toList).toArray):=by
 obtain ⟨z,hzv,hzs,hone⟩:=hz
 have hlen:(Builtin.zeroCells z.cells m).toList.length=m * ei.size:=by simp [Builtin.zeroCells,hzs]
 have h1:∀ v ∈ (Builtin.zeroCells z.cells m).toList,v.oneCell'=true:=by
  intro v hv
  simp only [Builtin.zeroCells,Array.toList_map,List.mem_map,Array.toList_range,List.mem_range] at hv
  obtain ⟨i,hi,rfl⟩:=hv
  have hlt:i % z.cells.size < z.cells.size:=Nat.mod_lt _ (by rw [hzs]; exact hp)
  rw [getElem!_pos z.cells _ hlt]
  exact hone _ (by rw [← Array.getElem_toList]; exact List.getElem_mem _)
 have hst:=run_storeCells_at P k o ty (Builtin.zeroCells z.cells m).toList 0 us.toArray w hw (by rw [hlen]; simpa using hfit) h1
 refine ⟨z,hzv,hzs,?_⟩
 obtain ⟨m',rfl⟩:∃ m',m=m' + 1:=⟨m - 1,by omega⟩
 simp [Builtin.clear_,run_underlying hu,hzv,hst,ovw]
theorem zero_get (z:Array Value) (m sz i:Nat) (hz:z.size=sz) (hp:0 < sz) (hi:i < m * sz):(Builtin.zeroCells z m).toList[i]? = z.toList[i % sz]? := by
 have hlt:i % sz < z.size:=by rw [hz]; exact Nat.mod_lt _ hp
 simp only [Builtin.zeroCells,Array.toList_map,List.getElem?_map,Array.toList_range,hz,List.getElem?_range hi,Option.map_some,Array.getElem?_toList]
 rw [Array.getElem?_eq_getElem hlt,getElem!_pos z _ hlt]
theorem evClear_sound (hT:Tab.ok C.P T) (h:HeapOK C E H w) {x:Operand} {t:TypeId} (ho:o.op = .call { callee := .builtin .clear,args := #[x],argTypes := #[t] }) {vx:AV} (hx:Rel E true vx (a.eval x))
  {L:Nat->Option OB} (hL:∀ b ob,L b=some ob->H b=some ob) {r:Eff} (he:evClear T L t vx=some r):Good C E H w a o id r:=by
 unfold evClear at he
 split at he
 ·rename_i e b l sz sz' m hk
  have hu:C.P.underlying t=some (.slice e):=Tab.kind_ok hT hk
  split at he
  ·rename_i ei ty sz2 n f hei hLb
   split at he
   ·rename_i hc
    obtain ⟨hes,hs1,hs2,hp⟩:=hc
    rw [hs2] at hx
    cases he
    rintro ⟨hlm,hm⟩
    have hE:=hT _ _ hei
    obtain ⟨i,z0,hi,hs,hb,hz,hzs,hza⟩:=hE.info
    have hzv:∀ w,(zeroValue e).run C.P w = .ok z0 w:=fun w=>by simp [zeroValue,typeInfo,hi,hz]
    obtain ⟨hd,g,hh,hown,hg,hf,hbk,hav⟩:=h.own b _ (hL _ _ hLb)
    rcases ownsRow_form hown with ⟨hv,hn⟩ | ⟨k,cap,hv,hnc,hcm,us,hw,hul,htk⟩
    ·omega
    ·subst hv
     obtain ⟨hav1,hM⟩:=hav k rfl
     have hbk':E.blk b=some k:=hbk
     generalize hxx:a.eval x=zx at hx
     cases hx with
     | win _ _ _ _ hb hcap =>
     rename_i kk cap2
     rw [hbk'] at hb; cases hb
     have hpo:poff [.idx l sz2]=l * sz2:=by simp [poff]
     have hmul:n * sz2<=cap * sz2:=Nat.mul_le_mul_right _ hnc
     have hsum:l * sz2 + m * sz2=n * sz2:=by rw [← Nat.add_mul,hlm]
     obtain ⟨z,hzv2,hzs2,hrun⟩:=run_clear_win (P:=C.P) (ei:=ei) hu ⟨z0,hzv,hzs,fun v hv=>(hza E false).oneCell v hv⟩ (by rw [hes]; exact hp) w o.type k (poff [.idx l sz2]) m cap2 us ty hw hm (by rw [hpo,hes]; omega)
     have hzz:z=z0:=by
      have h1:=hzv w; rw [hzv2 w] at h1; cases h1; rfl
     subst hzz
     have hlen:(Builtin.zeroCells z.cells m).toList.length=m * sz2:=by simp [Builtin.zeroCells,hzs,hes]
     let g':Nat->List Value:=fun j=>if j < l then g j else z.cells.toList
     have hg':∀ j,j < n->(g' j).length=sz2:=by
      intro j hj
      show (if j < l then g j else z.cells.toList).length=sz2
      split
      ·exact hg j hj
      ·rw [Array.length_toList,hzs,hes]
     refine ⟨.tuple #[],w.setRow k (ovw us (poff [.idx l sz2]) (Builtin.zeroCells z.cells m).toList).toArray,E,.inl (by simp [execOp,ho,resolve,invoke,builtin,hxx,hrun]),Env.le.refl E,?_,.any _,fun _ _=>⟨rfl,rfl⟩⟩
     ·refine h.setVec b k (by rw [hL _ _ hLb]; simp) hbk' hav1 hM (grownBy_setRow w k _) _ ?_
      refine ⟨_,g',hh,⟨flat_length _ _ _ hg',.inr ⟨k,cap,_,rfl,Nat.zero_le _,setRow_heap w k _ _ ty (0,0) hw,hnc,hcm,?_,?_⟩⟩,hg',fun j hj => ?_,hbk',fun k' hk'=>by cases hk'; exact ⟨hav1,hM⟩⟩
      ·simp only [List.size_toArray]
       rw [ovw_length _ _ _ (by rw [hpo,hlen,hul]; omega),hul]
      ·apply List.ext_getElem?
       intro j
       rw [List.getElem?_take]
       split
       ·rename_i hj
        rw [ovw_get _ _ _ _ (by rw [hpo,hlen,hul]; omega),hpo,hlen,flat_at g' sz2 n hp hg' hj]
        have hq:j / sz2 < l ↔ j < l * sz2:=Nat.div_lt_iff_lt_mul hp
        show _=(if j / sz2 < l then g (j / sz2) else z.cells.toList)[j % sz2]?
        by_cases c:j < l * sz2
        ·rw [if_pos c,if_pos (hq.2 c),← flat_at g sz2 n hp hg hj,← htk,List.getElem?_take,if_pos hj]
        ·rw [if_neg c,if_pos (by omega),if_neg (fun hh=>c (hq.1 hh)),zero_get z.cells m sz2 (j - l * sz2) (by rw [hzs,hes]) hp (by omega)]
         congr 1
         rw [← Nat.add_mul_mod_self_right (j - l * sz2) l sz2]
         congr 1; omega
       ·rename_i hj
        rw [List.getElem?_eq_none (by rw [flat_length _ _ _ hg']; omega)]
      ·show RelL E false (if j < l then f j else ei.za) (if j < l then g j else z.cells.toList)
       split
       ·exact hf j hj
       ·exact hza E false
   ·cases he
  ·cases he
 ·cases he
def nilB (L:Nat->Option OB):AV->Option (Prop × Bool)
 | .sl _ n _=>some (0 < n,false)
 | .slc _ n _=>some (0 < n,false)
 | .vec b=>match L b with | some (.vec _ _ n _)=>some (0 < n,false) | _=>none
 | .lit (.slice none _ _)=>some (True,true)
 | .lit (.slice (some _) _ _)=>some (True,false)
 | .lit (.pointer none)=>some (True,true)
 | .rp _=>some (True,false)
 | .opt g _=>some (True,!g)
 | .osl g _ _ _=>some (True,!g)
 | .ptr _ _=>some (True,false)
 | _=>none
def nulR (op:BinOp) (q:Prop) (b:Bool):Option VEff :=
 match op with
 | .eql=>some (q,.lit (.bool b))
 | .neq=>some (q,.lit (.bool (!b)))
 | _=>none
def evNul (T:Tab) (L:Nat->Option OB) (op:BinOp) (t:TypeId) (x y:AV):Option VEff :=
 match T.kind t,y,nilB L x with
 | some (.slice _),.lit (.slice none 0 0),some (q,b)=>if isPtrAV x then none else nulR op q b
 | some (.ptr _),.lit (.pointer none),some (q,b)=>if isPtrAV x then nulR op q b else none
 | _,_,_=>none
where isPtrAV:AV->Bool
 | .lit (.pointer _)=>true
 | .rp _=>true
 | .opt _ _=>true
 | .ptr _ _=>true
 | _=>false
def evNulF (T:Tab) (op:BinOp) (t:TypeId) (x y:AV):Option VEff :=
 match T.kind t,x,y with
 | some .func,.clo _ _,.lit .nilFunc=>nulR op True false
 | some .func,.lit .nilFunc,.lit .nilFunc=>nulR op True true
 | _,_,_=>none
theorem run_eq_func {P:Program} {t:TypeId} {a b c} (hu:P.underlying t=some (.func a b c)) (w:World) (f:Fn) (x y:Array Value):(Op.equal t (.func f x y) .nilFunc).run P w = .ok false w:=by
 have hm:Op.maxDepth=9999 + 1:=rfl
 generalize 9999=d at hm
 unfold Op.equal
 rw [hm]
 simp [Op.equalIn,run_underlying hu]
theorem run_eq_nilF {P:Program} {t:TypeId} {a b c} (hu:P.underlying t=some (.func a b c)) (w:World):(Op.equal t .nilFunc .nilFunc).run P w = .ok true w:=by
 have hm:Op.maxDepth=9999 + 1:=rfl
 generalize 9999=d at hm
 unfold Op.equal
 rw [hm]
 simp [Op.equalIn,run_underlying hu]
theorem evNulF_sound (hT:Tab.ok C.P T) (h:HeapOK C E H w) {op:BinOp} {t yt:TypeId} {x y:Operand} (ho:o.op = .binOp op t x y yt) {vx vy:AV} (hx:Rel E true vx (a.eval x)) (hy:Rel E true vy (a.eval y)) {r:VEff} (he:evNulF T op t vx vy=some r):Good C E H w a o id ⟨r.1,r.2,[]⟩:=by
 refine Good.val h fun hq => ?_
 have key:∀ (u:Value) (b:Bool),a.eval x=u->a.eval y = .nilFunc->nulR op True b=some r->(Op.equal t u .nilFunc).run C.P w = .ok b w->(∀ op,binOp op t u .nilFunc=match op with | .eql=>(do pure (.bool (← Op.equal t u .nilFunc))) | .neq=>(do pure (.bool (!(← Op.equal t u .nilFunc)))) | _=>binOp op t u .nilFunc)->(∀ op,eqGuard op t x y u .nilFunc=pure ()) →
   ∃ v,(execOp a.eval o).run C.P w = .ok (.value v) w/\Rel E true r.2 v:=by
  intro u b e1 e2 e3 e4 e5 e6
  unfold nulR at e3
  split at e3
  ·cases e3
   refine ⟨.bool b,?_,.lit _⟩
   have:=e5 .eql
   simp only at this
   simp [execOp,ho,e1,e2,e6,this,e4]
  ·cases e3
   refine ⟨.bool (!b),?_,.lit _⟩
   have:=e5 .neq
   simp only at this
   simp [execOp,ho,e1,e2,e6,this,e4]
  ·cases e3
 unfold evNulF at he
 split at he
 ·rename_i f cs hk
  obtain ⟨p,q,s,hu⟩:∃ p q s,C.P.underlying t=some (.func p q s):=Tab.kind_ok hT hk
  have hye:a.eval y = .nilFunc:=by generalize a.eval y=z at hy; cases hy; rfl
  generalize hxe:a.eval x=u at hx
  cases hx with
  | clo _ hl hr=>exact key _ _ hxe hye he (run_eq_func hu w _ _ _) (fun op=>by cases op <;> rfl) (fun op=>by cases op <;> rfl)
 ·rename_i hk
  obtain ⟨p,q,s,hu⟩:∃ p q s,C.P.underlying t=some (.func p q s):=Tab.kind_ok hT hk
  have hye:a.eval y = .nilFunc:=by generalize a.eval y=z at hy; cases hy; rfl
  have hxe:a.eval x = .nilFunc:=by generalize a.eval x=z at hx; cases hx; rfl
  exact key _ _ hxe hye he (run_eq_nilF hu w) (fun op=>by cases op <;> rfl) (fun op=>by cases op <;> rfl)
 ·cases he
theorem nilB_rel (h:HeapOK C E H w) {L:Nat->Option OB} (hL:∀ b ob,L b=some ob->H b=some ob) {v:AV} {q:Prop} {b:Bool} (hn:nilB L v=some (q,b)) (hq:q) {u:Value} (hr:Rel E true v u) :
  (evNul.isPtrAV v=false -> ∃ ad n c,u = .slice ad n c/\b=ad.isNone)/\(evNul.isPtrAV v=true -> ∃ ad,u = .pointer ad/\b=ad.isNone):=by
 unfold nilB at hn
 split at hn
 ·cases hn
  refine ⟨fun _ => ?_,fun e=>by cases e⟩
  cases hr with
  | slN=>exact absurd hq (by omega)
  | slZ=>exact absurd hq (by omega)
  | slA=>exact ⟨_,_,_,rfl,rfl⟩
 ·cases hn
  refine ⟨fun _ => ?_,fun e=>by cases e⟩
  cases hr with
  | slcN=>exact absurd hq (by omega)
  | slcZ=>exact absurd hq (by omega)
  | slcA=>exact ⟨_,_,_,rfl,rfl⟩
 ·rename_i b'
  split at hn
  ·rename_i ty sz n f hLb
   cases hn
   refine ⟨fun _ => ?_,fun e=>by cases e⟩
   obtain ⟨hd,g,hh,hown,_⟩:=h.own b' _ (hL _ _ hLb)
   cases hr with
   | vec _ hh' _ =>
   rw [hh] at hh'; cases hh'
   rcases ownsRow_form hown with ⟨hv,h0⟩ | ⟨k,cap,hv,_⟩
   ·exact absurd hq (by omega)
   ·subst hv; exact ⟨_,_,_,rfl,rfl⟩
  ·cases hn
 ·cases hn; cases hr; exact ⟨fun _=>⟨_,_,_,rfl,rfl⟩,fun e=>by cases e⟩
 ·cases hn; cases hr; exact ⟨fun _=>⟨_,_,_,rfl,rfl⟩,fun e=>by cases e⟩
 ·cases hn; cases hr; exact ⟨fun e=>(by cases e),fun _=>⟨_,rfl,rfl⟩⟩
 ·cases hn; cases hr; exact ⟨fun e=>(by cases e),fun _=>⟨_,rfl,rfl⟩⟩
 ·cases hn
  cases hr with
  | optN _ h=>exact ⟨fun e=>(by cases e),fun _=>⟨_,rfl,by rw [h]; rfl⟩⟩
  | optS _ _ h=>exact ⟨fun e=>(by cases e),fun _=>⟨_,rfl,by rw [h]; rfl⟩⟩
 ·cases hn
  cases hr with
  | oslN _ _ _ h=>exact ⟨fun _=>⟨_,_,_,rfl,by rw [h]; rfl⟩,fun e=>by cases e⟩
  | oslS a k c h _=>exact ⟨fun _=>⟨_,_,_,rfl,by rw [h]; rfl⟩,fun e=>by cases e⟩
 ·cases hn; cases hr; exact ⟨fun e=>(by cases e),fun _=>⟨_,rfl,rfl⟩⟩
 ·cases hn
theorem run_eq_slice {P:Program} {t e:TypeId} (hu:P.underlying t=some (.slice e)) (w:World) (ad:Option Addr) (n c:Nat):(Op.equal t (.slice ad n c) (.slice none 0 0)).run P w = .ok ad.isNone w:=by
 have hm:Op.maxDepth=9999 + 1:=rfl
 generalize 9999=d at hm
 unfold Op.equal
 rw [hm]
 cases ad <;> simp [Op.equalIn,run_underlying hu]
theorem run_eq_ptr {P:Program} {t e:TypeId} (hu:P.underlying t=some (.pointer e)) (w:World) (ad:Option Addr):(Op.equal t (.pointer ad) (.pointer none)).run P w = .ok ad.isNone w:=by
 have hm:Op.maxDepth=9999 + 1:=rfl
 generalize 9999=d at hm
 unfold Op.equal
 rw [hm]
 cases ad <;> simp [Op.equalIn,run_underlying hu]
theorem evNul_sound (hT:Tab.ok C.P T) (h:HeapOK C E H w) {op:BinOp} {t yt:TypeId} {x y:Operand} (ho:o.op = .binOp op t x y yt) {vx vy:AV} (hx:Rel E true vx (a.eval x)) (hy:Rel E true vy (a.eval y))
  {L:Nat->Option OB} (hL:∀ b ob,L b=some ob->H b=some ob) {r:VEff} (he:evNul T L op t vx vy=some r):Good C E H w a o id ⟨r.1,r.2,[]⟩:=by
 refine Good.val h fun hq => ?_
 have key:∀ (u v:Value) (q:Prop) (b:Bool),a.eval x=u->a.eval y=v->nulR op q b=some r->q->(Op.equal t u v).run C.P w = .ok b w->(∀ op,binOp op t u v=match op with | .eql=>(do pure (.bool (← Op.equal t u v))) | .neq=>(do pure (.bool (!(← Op.equal t u v)))) | _=>binOp op t u v)->(∀ op,eqGuard op t x y u v=pure ()) →
   ∃ v,(execOp a.eval o).run C.P w = .ok (.value v) w/\Rel E true r.2 v:=by
  intro u v q b e1 e2 e3 _ e4 e5 e6
  unfold nulR at e3
  split at e3
  ·cases e3
   refine ⟨.bool b,?_,.lit _⟩
   have:=e5 .eql
   simp only at this
   simp [execOp,ho,e1,e2,e6,this,e4]
  ·cases e3
   refine ⟨.bool (!b),?_,.lit _⟩
   have:=e5 .neq
   simp only at this
   simp [execOp,ho,e1,e2,e6,this,e4]
  ·cases e3
 have getq:∀ {q:Prop} {b:Bool},nulR op q b=some r->r.1->q:=by
  intro q b e hr
  unfold nulR at e
  split at e
  ·cases e; exact hr
  ·cases e; exact hr
  ·cases e
 unfold evNul at he
 split at he
 ·rename_i e q b hk hn
  have hu:C.P.underlying t=some (.slice e):=Tab.kind_ok hT hk
  have hye:a.eval y = .slice none 0 0:=by generalize a.eval y=z at hy; cases hy; rfl
  split at he
  ·cases he
  ·rename_i hp
   obtain ⟨ad,n,c,hxe,rfl⟩:=(nilB_rel h hL hn (getq he hq) hx).1 (by simpa using hp)
   exact key _ _ q _ hxe hye he (getq he hq) (run_eq_slice hu w ad n c) (fun op=>by cases op <;> rfl) (fun op=>by cases op <;> rfl)
 ·rename_i e q b hk hn
  have hu:C.P.underlying t=some (.pointer e):=Tab.kind_ok hT hk
  have hye:a.eval y = .pointer none:=by generalize a.eval y=z at hy; cases hy; rfl
  split at he
  ·rename_i hp
   obtain ⟨ad,hxe,rfl⟩:=(nilB_rel h hL hn (getq he hq) hx).2 hp
   exact key _ _ q _ hxe hye he (getq he hq) (run_eq_ptr hu w ad) (fun op=>by cases op <;> rfl) (fun op=>by cases op <;> rfl)
  ·cases he
 ·cases he
end
section
variable {C:Ctx} {E:Env} {H:Heap} {w:World} {a:Act} {o:Oper} {id:Nat} {T:Tab}
def evCut (T:Tab) (L:Nat->Option OB) (t:TypeId) (x:AV) (lo hi mx:Option AV) (id:Nat):Option Eff :=
 match T.kind t,x,optI lo,optI hi,optI mx with
 | some (.slice e),.vec b,some none,some (some h),some none =>
  match T e,L b with
  | some ei,some (.vec ty sz n f)=>if ei.size=sz then some ⟨0<=h/\h<=n,.vec id,[(b,none),(id,some (.vec ty sz h.toNat f))]⟩ else none
  | _,_=>none
 | some (.slice e),.lit (.slice none 0 0),some none,some (some h),some (some m) =>
  match T e with
  | some _=>some ⟨h=0/\m=0,.lit (.slice none 0 0),[]⟩
  | none=>none
 | _,_,_,_,_=>none
theorem flat_take {α:Type} (g:Nat->List α) (sz:Nat) {n m:Nat} (hg:∀ i,i < n->(g i).length=sz) (hm:m<=n):((List.range n).flatMap g).take (m * sz)=(List.range m).flatMap g:=by
  induction n with
  | zero => have : m = 0 := by omega
            subst this; simp
  | succ n ih =>
    rw [List.range_succ,List.flatMap_append]
    have hl:∀ k,k<=n->((List.range k).flatMap g).length=k * sz:=by
      intro k
      induction k with
      | zero=>intro _; simp
      | succ k ih2=>intro hk; rw [List.range_succ,List.flatMap_append,List.length_append,ih2 (by omega)]; simp [hg k (by omega),Nat.add_mul]
    by_cases e:m=n + 1
    · subst e
      rw [List.take_of_length_le]
      · rw [List.range_succ,List.flatMap_append]
      · rw [List.length_append,hl n (Nat.le_refl _)]; simp [hg n (by omega),Nat.add_mul]
    · rw [List.take_append_of_le_length (by rw [hl n (Nat.le_refl _)]; exact Nat.mul_le_mul_right _ (by omega))]
      exact ih (fun i hi=>hg i (by omega)) (by omega)
theorem evCut_sound (hT:Tab.ok C.P T) (h:HeapOK C E H w) (hf:E.blk id=none) (hf2:E.hdr id=none) {x:Operand} {lo hi mx:Option Operand} {t:TypeId} (ho:o.op = .slice t x lo hi mx) {vx:AV} {vlo vhi vmx:Option AV} (hx:Rel E true vx (a.eval x))
  (hlo:∀ v,vlo=some v -> ∃ x,lo=some x/\Rel E true v (a.eval x)) (hlo':vlo=none->lo=none) (hhi:∀ v,vhi=some v -> ∃ x,hi=some x/\Rel E true v (a.eval x)) (hhi':vhi=none->hi=none)
  (hmx:∀ v,vmx=some v -> ∃ x,mx=some x/\Rel E true v (a.eval x)) (hmx':vmx=none->mx=none)
  {L:Nat->Option OB} (hL:∀ b ob,L b=some ob->H b=some ob) {r:Eff} (he:evCut T L t vx vlo vhi vmx id=some r):Good C E H w a o id r:=by
 unfold evCut at he
 split at he
 ·rename_i e b hh hk h1 h2 h3
  have hu:C.P.underlying t=some (.slice e):=Tab.kind_ok hT hk
  have r1:=optI_rel hlo hlo' h1
  have r2:=optI_rel hhi hhi' h2
  have r3:=optI_rel hmx hmx' h3
  split at he
  ·rename_i ei ty sz n f hei hLb
   split at he
   ·rename_i hs
    cases he
    rintro ⟨h0,h1⟩
    obtain ⟨hd,g,hhd,hown,hg,hr,hbk,hav⟩:=h.own b _ (hL _ _ hLb)
    have hxe:a.eval x=hd:=by
     generalize a.eval x=z at hx
     cases hx with
     | vec _ hh' _=>rw [hhd] at hh'; cases hh'; rfl
    obtain ⟨m,rfl⟩:∃ m:Nat,hh=m:=⟨hh.toNat,by omega⟩
    rw [Int.toNat_natCast]
    have hmn:m<=n:=by omega
    have key:∃ v',(execOp a.eval o).run C.P w = .ok (.value v') w/\w.ownsRow 0 ty sz v' m ((List.range m).flatMap g)/\(∀ k,v'.ownBlock=some k->hd.ownBlock=some k):=by
     have hfl:=flat_length g sz m (fun i hi=>hg i (by omega))
     rcases ownsRow_form hown with ⟨hv,hn⟩ | ⟨k,cap,hv,hnc,hcm,us,hw,hul,htk⟩
     ·subst hv
      have hm:m=0:=by omega
      subst hm
      have hrun:=run_slice_gen (P:=C.P) hu (hT _ _ hei) w none 0 0 0 ((0:Nat):Int) none (some (.int .i64 ((0:Nat):Int))) (.inr ⟨rfl,rfl⟩) (.inl rfl) (by omega) (by omega) (by omega) (Nat.le_refl _)
      refine ⟨.slice none 0 0,?_,⟨by simp,.inl ⟨rfl,rfl⟩⟩,fun k hk=>hk⟩
      simp only [execOp,ho,hxe,r1,r2,r3,Option.map_some,Option.map_none,Sem.run_bind,hrun,Result.andThen_ok,Sem.run_pure]
      rfl
     ·subst hv
      have hrun:=run_slice_gen (P:=C.P) hu (hT _ _ hei) w (some ⟨k,0,none⟩) n cap 0 (m:Int) none (some (.int .i64 (m:Int))) (.inr ⟨rfl,rfl⟩) (.inl rfl) (by omega) (by omega) (by omega) hnc
      refine ⟨.slice (some ⟨k,0,none⟩) m cap,?_,?_,fun k hk=>hk⟩
      ·have e1:((0:Int)).toNat=0:=rfl
       have e2:(if cap=(0:Int).toNat then (some ⟨k,0,none⟩:Option Addr) else (some ⟨k,0,none⟩:Option Addr).map (·.add ((0:Int).toNat * ei.size)))=some ⟨k,0,none⟩:=by
        split
        ·rfl
        ·rw [e1,Option.map_some,addr_add]; simp
       rw [e2,Int.toNat_natCast,e1,Nat.sub_zero,Nat.sub_zero] at hrun
       simp only [execOp,ho,hxe,r1,r2,r3,Option.map_some,Option.map_none,Sem.run_bind,hrun,Result.andThen_ok,Sem.run_pure]
      ·refine ⟨hfl,.inr ⟨k,cap,us.toArray,rfl,Nat.zero_le _,hw,by omega,hcm,by simpa using hul,?_⟩⟩
       have:=congrArg (List.take (m * sz)) htk
       rw [List.take_take,Nat.min_eq_left (Nat.mul_le_mul_right _ hmn),flat_take g sz hg hmn] at this
       exact this
    obtain ⟨v',hrun,how,hbk'⟩:=key
    refine ⟨v',w,_,.inl hrun,Env.le_setHdr hf hf2,?_,.vec id (setHdr_self _ _ _) (oneCell_ownsRow how),fun j hj=>⟨setHdr_other _ _ _ _ (by omega),if_neg (by omega)⟩⟩
    have hdrop:HeapOK C E (H.put b none) w:=h.drop (fun i ob hi=>by
     unfold Heap.put at hi
     split at hi
     ·cases hi
     ·exact hi)
    refine hdrop.newVec id hf hf2 hd.ownBlock (World.grownBy.refl w _) (fun j hj=>⟨(hav j hj).1,(hav j hj).2,fun c hcH hcb => ?_⟩) ty _ m _ v' g how (fun i hi=>hg i (by omega)) (fun i hi=>hr i (by omega)) (fun k hk => .inl (hbk' k hk))
    have hne:c ≠ b:=fun ec=>hcH (by rw [ec]; exact if_pos rfl)
    have hcH':H c ≠ none:=by
     have:(H.put b none) c=H c:=if_neg hne
     rw [this] at hcH; exact hcH
    exact h.sep c b j hne hcH' (by rw [hL _ _ hLb]; simp) hcb (by rw [hbk]; exact hj)
   ·cases he
  ·cases he
 ·rename_i e hh mm hk h1 h2 h3
  have hu:C.P.underlying t=some (.slice e):=Tab.kind_ok hT hk
  have r1:=optI_rel hlo hlo' h1
  have r2:=optI_rel hhi hhi' h2
  have r3:=optI_rel hmx hmx' h3
  split at he
  ·rename_i ei hei
   cases he
   refine Good.val h fun hq => ?_
   obtain ⟨q1,q2⟩:=hq
   subst q1; subst q2
   have hxx:a.eval x = .slice none 0 0:=by generalize a.eval x=z at hx; cases hx; rfl
   have hb:=run_sliceBound (P:=C.P) (w:=w) .i64 ((0:Nat):Int) 0 .slice3B (by omega) (by omega)
   have hb':=run_sliceBound (P:=C.P) (w:=w) .i64 ((0:Nat):Int) 0 .slice3Acap (by omega) (by omega)
   refine ⟨.slice none 0 0,?_,.lit _⟩
   simp only [Int.toNat_natCast] at hb hb'
   rw [show ((0:Nat):Int)=0 from rfl] at hb hb'
   simp [execOp,ho,hxx,r1,r2,r3,Instr.sliceAt,Instr.slice,run_underlying hu,Instr.sliceBounds,hb',hb,(hT _ _ hei).sizeOf w]
  ·cases he
 ·cases he
end
section
variable {C:Ctx} {E:Env} {H:Heap} {w:World} {a:Act} {o:Oper} {id:Nat} {T:Tab}
def evIndexW (T:Tab) (L:Nat->Option OB) (t:TypeId) (x ix:AV):Option VEff :=
 match T.kind t,x,ix with
 | some (.slice e),.win b [.idx l sz'] sz n,.lit (.int .i64 i) =>
  match T e,L b with
  | some ei,some (.vec _ sz2 m _)=>if ei.size=sz/\sz'=sz/\sz2=sz then some (0<=i/\i < n/\l + n<=m,.vp b (l + i.toNat) sz []) else none
  | _,_=>none
 | _,_,_=>none
theorem evIndexW_sound (hT:Tab.ok C.P T) (h:HeapOK C E H w) {x ix:Operand} {t:TypeId} (ho:o.op = .indexAddr t x ix) {vx vi:AV} (hx:Rel E true vx (a.eval x)) (hi:Rel E true vi (a.eval ix))
  {L:Nat->Option OB} (hL:∀ b ob,L b=some ob->H b=some ob) {r:VEff} (he:evIndexW T L t vx vi=some r):Good C E H w a o id ⟨r.1,r.2,[]⟩:=by
 refine Good.val h fun hq => ?_
 unfold evIndexW at he
 split at he
 ·rename_i e b l sz' sz n i hk
  have hu:C.P.underlying t=some (.slice e):=Tab.kind_ok hT hk
  split at he
  ·rename_i ei ty sz2 m f hei hLb
   split at he
   ·rename_i hs
    obtain ⟨hs1,hs2,hs3⟩:=hs
    cases he
    obtain ⟨h0,h1,h2⟩:=hq
    obtain ⟨hd,g,hh,hown,hg,hf,hbk,hav⟩:=h.own b _ (hL _ _ hLb)
    rcases ownsRow_form hown with ⟨hv,hn⟩ | ⟨k,cap,hv,hnc,hcm,us,hw,hul,htk⟩
    ·omega
    ·subst hv
     have hie:a.eval ix = .int .i64 i:=by
      generalize a.eval ix=z at hi
      cases hi; rfl
     generalize hxe:a.eval x=z at hx
     cases hx with
     | @win k' cap' _ _ _ _ hb hn =>
      have hk':k'=k:=by rw [hbk] at hb; cases hb; rfl
      subst hk'
      have hrun:=run_indexAt_slice (P:=C.P) hu (hT _ _ hei) w k' (poff [.idx l sz']) n cap' i h0 (by omega)
      refine ⟨.pointer (some ⟨k',(l + i.toNat) * sz + poff [],none⟩),?_,.vp b (l + i.toNat) sz [] hh⟩
      have e1:poff [.idx l sz'] + i.toNat * ei.size=(l + i.toNat) * sz + poff []:=by
       rw [hs1,hs2]; simp only [poff,Nat.add_mul]; omega
      rw [e1] at hrun
      simp only [execOp,ho,hxe,hie,Sem.run_bind,hrun,Result.andThen_ok,Sem.run_pure]
   ·cases he
  ·cases he
 ·cases he
end
end Go.Ab
