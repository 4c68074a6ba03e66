/- Part 4 of the proof: own library, plain forms and walks. -/
import Derived.Test.YtcbgfmalillplaaQShown3
import Derived.Shelf.Sort.Plain
import Derived.Shelf.Slices.CompactI
import Derived.Test.YtcbgfmalillplaaProg
import Derived.Sort.Grow
import Derived.Lib.SlicesCompact
set_option linter.all false
set_option linter.deprecated false
namespace Go.Ab
open Go Go.RowKit Go.Proofs Go.Sh Go.En
theorem w133 (g:Hs) (c:Int) (S:Nat->Int) (B:Nat->Int) (n:Int) (m:Int)
 (o0:0<=n/\n < 8->n < (↑8:Int))
 (o1:0<=n/\n < 8->n < (↑8:Int))
 (o2:0<=n/\n < 8->decide (S n.toNat<=m)=hasB S m n) :
  Triple Try.prog 133 (s133 g c S B n m):=by
 refine triple_of Try.func133 rfl Try.call133 T0_ok _ rfl rfl rfl rfl (Nat.le_of_ble_eq_true (by kernel_rfl)) (fun _ _ _ _ h=>h) ?_
 intro hp C hC _ hE
 obtain ⟨P,w0,E0,av,hA⟩:=C
 subst hC
 refine swp_seq ?_
 refine sQ (kt:=[0,1,2]) (kh:=[]) (q:=True/\True) (st':=ASt.mk [(0,.rp (cHo g c S B)),(1,iv n),(2,iv m)] [] 8) ⟨tv,tv⟩ ?_
 refine swp_seq ?_
 refine sQ (kt:=[6]) (kh:=[]) (q:=True/\True/\True/\True/\(0<=n/\n < (↑8:Int)/\n < (↑8:Int))/\tn 4) (st':=ASt.mk [(6,bv (decide (S n.toNat<=m)))] [] 80) ⟨tv,tv,tv,tv,⟨hp.1,(o0 hp),(o1 hp)⟩,tp 4⟩ ?_
 refine swp_ret ?_
 exact rQ [] ((True/\True)/\(zN (bv (decide (S n.toNat<=m))) (bv (hasB S m n)))/\T3) ⟨⟨tv,tv⟩,⟨(congrArg bv (o2 hp)),rfl⟩,rfl,rfl,rfl⟩
theorem t133 (g:Hs) (c:Int) (S B:Nat->Int) (n m:Int):Triple Try.prog 133 (s133 g c S B n m):=by
 apply w133
 all_goals (first | ((repeat intro _) <;> (try simp only [v0,v1,v2,v3,v4,v5,v6,v7,v8,v9,inI,fits,Go.Sh.small] at *) <;> first | (exact rfl) | omega | exact vz | (simp_all; done) | (simp_all; omega)) | skip)
theorem w132 (n:Int) (g:Hs) (c:Int) (S:Nat->Int) (B:Nat->Int) (m:Int) :
  Triple Try.prog 132 (s132 n g c S B m):=by
 refine triple_of Try.func132 rfl Try.call132 T0_ok _ rfl rfl rfl rfl (Nat.le_of_ble_eq_true (by kernel_rfl)) (fun _ _ _ _ h=>h) ?_
 intro hp C hC _ hE
 obtain ⟨P,w0,E0,av,hA⟩:=C
 subst hC
 refine swp_seq ?_
 refine sQ (kt:=[0,1,2]) (kh:=[]) (q:=True/\True) (st':=ASt.mk [(0,iv n),(1,.rp [.rp (cHo g c S B)]),(2,.rp [iv m])] [] 8) ⟨tv,tv⟩ ?_
 refine swp_seq ?_
 refine sC (cs:=[(3,CallSpec.eq (s133 g c S B n m) [true,true,true])]) (kt:=[4]) (kh:=[]) (q:=True/\True/\True/\((zE (AV.rp (cHo g c S B))/\iv n=iv n/\iv m=iv m/\True)/\Triple Try.prog 133 (s133 g c S B n m)/\(0<=n/\n < 8)/\True /\ ∀ (i0:Env),True)/\True/\True) (st':=ASt.mk [(4,bv (hasB S m n))] [] 48) ⟨tv,tv,tv,⟨⟨rfl,rfl,rfl,tv⟩,(t133 (g) (c) (S) (B) (n) (m)),⟨hp.1,hp.2⟩,tv,(fun i0=>tv)⟩,tv,tv⟩ ?_
 refine swp_ret ?_
 exact rQ [] ((True/\True)/\(zM (bv (hasB S m n)))/\T3) ⟨⟨tv,tv⟩,⟨rfl,rfl⟩,rfl,rfl,rfl⟩
theorem t132 (n:Int) (g:Hs) (c:Int) (S B:Nat->Int) (m:Int):Triple Try.prog 132 (s132 n g c S B m):=by
 apply w132
 all_goals (first | ((repeat intro _) <;> (try simp only [v0,v1,v2,v3,v4,v5,v6,v7,v8,v9,inI,fits,Go.Sh.small] at *) <;> first | (exact rfl) | omega | exact vz | (simp_all; done) | (simp_all; omega)) | skip)
theorem w134 (n:Int) (g:Hs) (c:Int) (S:Nat->Int) (B:Nat->Int) (m:Int) :
  Triple Try.prog 134 (s134 n g c S B m):=by
 refine triple_of Try.func134 rfl Try.call134 T0_ok _ rfl rfl rfl rfl (Nat.le_of_ble_eq_true (by kernel_rfl)) (fun _ _ _ _ h=>h) ?_
 intro hp C hC _ hE
 obtain ⟨P,w0,E0,av,hA⟩:=C
 subst hC
 refine swp_seq ?_
 refine sQ (kt:=[0,1]) (kh:=[]) (q:=True/\True) (st':=ASt.mk [(0,iv n),(1,.rp [.clo 132 [.rp [.rp (cHo g c S B)],.rp [iv m]]])] [] 8) ⟨tv,tv⟩ ?_
 refine swp_seq ?_
 refine sC (cs:=[(2,CallSpec.eq (s132 n g c S B m) [true,true,true])]) (kt:=[3]) (kh:=[]) (q:=True/\True/\((iv n=iv n/\zE (AV.rp [AV.rp (cHo g c S B)])/\zE (AV.rp [iv m])/\True)/\Triple Try.prog 132 (s132 n g c S B m)/\(0<=n/\n < 8)/\True /\ ∀ (i0:Env),True)/\tn 2) (st':=ASt.mk [(3,bv !hasB S m n)] [] 48) ⟨tv,tv,⟨⟨rfl,rfl,rfl,tv⟩,(t132 (n) (g) (c) (S) (B) (m)),⟨hp.1,hp.2⟩,tv,(fun i0=>tv)⟩,tp 2⟩ ?_
 refine swp_ret ?_
 exact rQ [] ((True/\True)/\(zM (bv !hasB S m n))/\T3) ⟨⟨tv,tv⟩,⟨rfl,rfl⟩,rfl,rfl,rfl⟩
theorem t134 (n:Int) (g:Hs) (c:Int) (S B:Nat->Int) (m:Int):Triple Try.prog 134 (s134 n g c S B m):=by
 apply w134
 all_goals (first | ((repeat intro _) <;> (try simp only [v0,v1,v2,v3,v4,v5,v6,v7,v8,v9,inI,fits,Go.Sh.small] at *) <;> first | (exact rfl) | omega | exact vz | (simp_all; done) | (simp_all; omega)) | skip)
theorem w107 (g:Hs) (c:Int) (S:Nat->Int) (B:Nat->Int) (l:List Int) (m:Int)
 (o0:∀ (E0:Env),(l.length<=1125899906842624 /\ ∀ (n:Int),n ∈ l->0<=n/\n < 8) -> ∀ (i0:Env) (i1:List Value),Env.le E0 i0->i1.length=2->(∀ (k:Nat),Rel i0 true (List.getD [aInts l,AV.clo 132 [AV.rp [AV.rp (cHo g c S B)],AV.rp [iv m]]] k AV.any) (i1.getD k undef))->fnokOf Try.prog 0 (fun (w:{ n:Int // n ∈ l })=>[iv (Subtype.val w)]) (fun (w:{ n:Int // n ∈ l })=>bv (hasB S m (Subtype.val w))) (Env.mk i0.1 i0.2 i0.3 fun (k:Nat) (u:Value) => ∃ (i:Nat),[aInts l,AV.fn 0][i]? = some (AV.fn k)/\i1[i]? = some u))
 (o1:∀ (E0:Env),(l.length<=1125899906842624 /\ ∀ (n:Int),n ∈ l->0<=n/\n < 8)->List.any l (hasB S m)=true -> ∀ (i12:Env) (i13:List Value),Env.le E0 i12->i13.length=2->(∀ (k:Nat),Rel i12 true (List.getD [AV.sl 1 l.length fun (i:Nat)=>[iv (l.getD i 0)],AV.clo 134 [AV.rp [AV.clo 132 [AV.rp [AV.rp (cHo g c S B)],AV.rp [iv m]]]]] k AV.any) (i13.getD k undef))->fnokOf Try.prog 0 (fun (w:{ n:Int // n ∈ l })=>[iv (Subtype.val w)]) (fun (w:{ n:Int // n ∈ l })=>bv !hasB S m (Subtype.val w)) (Env.mk i12.1 i12.2 i12.3 fun (k:Nat) (u:Value) => ∃ (i:Nat),[aInts l,AV.fn 0][i]? = some (AV.fn k)/\i13[i]? = some u))
 (o2:(l.length<=1125899906842624 /\ ∀ (n:Int),n ∈ l->0<=n/\n < 8)->(bif List.any l (hasB S m) then List.any l fun (n:Int) => !hasB S m n else false)=mixedB S l m) :
  Triple Try.prog 107 (s107 g c S B l m):=by
 refine triple_of Try.func107 rfl Try.call107 T0_ok _ rfl rfl rfl rfl (Nat.le_of_ble_eq_true (by kernel_rfl)) (fun _ _ _ _ h=>h) ?_
 intro hp C hC _ hE
 obtain ⟨P,w0,E0,av,hA⟩:=C
 subst hC
 refine swp_seq ?_
 refine sQ (kt:=[1,3,5]) (kh:=[0,8]) (q:=tn 3) (st':=ASt.mk [(1,aInts l),(3,.ptr 0 []),(5,.ptr 8 [])] [(0,.cells 135 [.rp (cHo g c S B)]),(8,.cells 3 [iv m])] 24) (tp 3) ?_
 refine swp_seq ?_
 refine swp_ent (ent_fz 0 135 ([AV.rp (cHo g c S B)]) (ASt.mk [(1,aInts l),(3,AV.rp [AV.rp (cHo g c S B)]),(5,AV.ptr 8 [])] [(8,OB.cells 3 [iv m])] 24) (by kernel_rfl) (by kernel_rfl) (by kernel_rfl)) ?_
 refine swp_ent (ent_fz 8 3 ([iv m]) (ASt.mk [(1,aInts l),(3,AV.rp [AV.rp (cHo g c S B)]),(5,AV.rp [iv m])] [] 24) (by kernel_rfl) (by kernel_rfl) (by kernel_rfl)) ?_
 refine sQ (kt:=[1,7]) (kh:=[32]) (q:=tn 3) (st':=ASt.mk [(1,aInts l),(7,.ptr 32 [])] [(32,.cells 85 [.clo 132 [.rp [.rp (cHo g c S B)],.rp [iv m]]])] 48) (tp 3) ?_
 refine swp_seq ?_
 refine swp_ent (ent_fz 32 85 ([AV.clo 132 [AV.rp [AV.rp (cHo g c S B)],AV.rp [iv m]]]) (ASt.mk [(1,aInts l),(7,AV.rp [AV.clo 132 [AV.rp [AV.rp (cHo g c S B)],AV.rp [iv m]]])] [] 48) (by kernel_rfl) (by kernel_rfl) (by kernel_rfl)) ?_
 refine sC (cs:=[(2,CallSpec.eq (c107a g c S B l m) [true,false]),(6,CallSpec.eq (c107b g c S B l m) [false,false])]) (kt:=[6]) (kh:=[]) (q:=True/\True/\((zE (aInts l)/\True/\True)/\Triple Try.prog 113 (c107a g c S B l m)/\l.length<=1125899906842624/\True /\ ∀ (i0:Env) (i1:List Value),Env.le E0 i0->i1.length=2->(∀ (k:Nat),Rel i0 true (List.getD [aInts l,AV.clo 132 [AV.rp [AV.rp (cHo g c S B)],AV.rp [iv m]]] k AV.any) (i1.getD k undef))->fnokOf Try.prog 0 (fun (w:{ n:Int // n ∈ l })=>[iv (Subtype.val w)]) (fun (w:{ n:Int // n ∈ l })=>bv (hasB S m (Subtype.val w))) (Env.mk i0.1 i0.2 i0.3 fun (k:Nat) (u:Value) => ∃ (i:Nat),[aInts l,AV.fn 0][i]? = some (AV.fn k)/\i1[i]? = some u))/\True/\(List.any l (hasB S m)=true->(True/\True)/\True)/\(List.any l (hasB S m)=true->(True/\True)/\True)/\(List.any l (hasB S m)=true->(True/\(List.any l (hasB S m)=true->List.any l (hasB S m)=true)/\(List.any l (hasB S m)=true->List.any l (hasB S m)=true)/\True)/\((1=1/\l.length=l.length /\ ∀ (i10:Nat),i10 < l.length -> [iv (l.getD i10 0)] = [iv (l.getD i10 0)])/\True/\True)/\Triple Try.prog 113 (c107b g c S B l m)/\l.length<=1125899906842624/\True /\ ∀ (i12:Env) (i13:List Value),Env.le E0 i12->i13.length=2->(∀ (k:Nat),Rel i12 true (List.getD [AV.sl 1 l.length fun (i:Nat)=>[iv (l.getD i 0)],AV.clo 134 [AV.rp [AV.clo 132 [AV.rp [AV.rp (cHo g c S B)],AV.rp [iv m]]]]] k AV.any) (i13.getD k undef))->fnokOf Try.prog 0 (fun (w:{ n:Int // n ∈ l })=>[iv (Subtype.val w)]) (fun (w:{ n:Int // n ∈ l })=>bv !hasB S m (Subtype.val w)) (Env.mk i12.1 i12.2 i12.3 fun (k:Nat) (u:Value) => ∃ (i:Nat),[aInts l,AV.fn 0][i]? = some (AV.fn k)/\i13[i]? = some u))/\((List.any l (hasB S m)=true->List.any l (hasB S m)=true)/\(List.any l (hasB S m)=false->True))/\True/\True) (st':=ASt.mk [(6,bv (bif List.any l (hasB S m) then List.any l fun (n:Int) => !hasB S m n else false))] [] 120) ⟨tv,tv,⟨⟨rfl,tv,tv⟩,(t113 _ _),hp.1,tv,(fun i0=>(fun i1=>(fun h2=>(fun h3=>(fun h4=>(o0 E0 hp i0 i1 h2 h3 h4))))))⟩,tv,(fun h5=>⟨⟨tv,tv⟩,tv⟩),(fun h6=>⟨⟨tv,tv⟩,tv⟩),(fun h7=>⟨⟨tv,(fun h8=>h7),(fun h9=>h7),tv⟩,⟨⟨rfl,rfl,(fun i10=>(fun h11=>rfl))⟩,tv,tv⟩,(t113 _ _),hp.1,tv,(fun i12=>(fun i13=>(fun h14=>(fun h15=>(fun h16=>(o1 E0 hp h7 i12 i13 h14 h15 h16))))))⟩),⟨(fun h17=>h17),(fun h18=>tv)⟩,tv,tv⟩ ?_
 refine swp_ret ?_
 exact rQ [] ((True/\True)/\(zN (bv (bif List.any l (hasB S m) then List.any l fun (n:Int) => !hasB S m n else false)) (bv (mixedB S l m)))/\T3) ⟨⟨tv,tv⟩,⟨(congrArg bv (o2 hp)),rfl⟩,rfl,rfl,rfl⟩
theorem t107 (g:Hs) (c:Int) (S B:Nat->Int) (l:List Int) (m:Int):Triple Try.prog 107 (s107 g c S B l m):=by
 apply w107
 case o0 =>
  intro E0 hp E us le hlen hr
  refine fnok_arg (vals:=[aInts l,.clo 132 [.rp [.rp (cHo g c S B)],.rp [iv m]]]) 1 (fun j' h => ?_) (fun E u hu w=>fnok_clo (caps:=[.rp [.rp (cHo g c S B)],.rp [iv m]]) (s132 w.1 g c S B m) (t132 _ _ _ _ _ _) rfl (hp.2 _ w.2) (fun _=>trivial) rfl rfl rfl rfl rfl hu) E us le hlen hr
  match j',h with
  | 0,h=>cases h
  | 1,_=>rfl
  | n + 2,h=>simp at h
 case o1 =>
  intro E0 hp hh E us le hlen hr
  refine fnok_arg (vals:=[aInts l,.clo 134 [.rp [.clo 132 [.rp [.rp (cHo g c S B)],.rp [iv m]]]]]) 1 (fun j' h => ?_) (fun E u hu w=>fnok_clo (caps:=[.rp [.clo 132 [.rp [.rp (cHo g c S B)],.rp [iv m]]]]) (s134 w.1 g c S B m) (t134 _ _ _ _ _ _) rfl (hp.2 _ w.2) (fun _=>trivial) rfl rfl rfl rfl rfl hu) E us le hlen hr
  match j',h with
  | 0,h=>cases h
  | 1,_=>rfl
  | n + 2,h=>simp at h
 all_goals (first | ((repeat intro _) <;> (try simp only [v0,v1,v2,v3,v4,v5,v6,v7,v8,v9,inI,fits,Go.Sh.small] at *) <;> first | (exact rfl) | omega | exact vz | (simp_all; done) | (simp_all; omega)) | skip)
abbrev q61_1 (g:Hs) (i:Int) (c:Int) (C:Prop):Prop:=okH g=true/\(0<=i/\i < (↑((Hs.things g).length):Int))/\within c 0 2=true->C
theorem w61 (g:Hs) (i:Int) (c:Int)
 (o0:q61_1 g i c (fitsH g))
 (o1:q61_1 g i c ((bif isThing g i then within c 0 2 else false)=true))
 (o2:q61_1 g i c (0<=i))
 (o3:q61_1 g i c (i < (↑8:Int)))
 (o4:q61_1 g i c (i < (↑8:Int)))
 (o5:q61_1 g i c (decide (tS g c (Hs.things g).length i.toNat=100)=true->0=sinceR g c i.toNat))
 (o6:q61_1 g i c (decide (tS g c (Hs.things g).length i.toNat=100)=true->3=sinceE g c i.toNat))
 (o7:q61_1 g i c (decide (tS g c (Hs.things g).length i.toNat=100)=false->tS g c (Hs.things g).length i.toNat=sinceR g c i.toNat))
 (o8:q61_1 g i c (decide (tS g c (Hs.things g).length i.toNat=100)=false->0=sinceE g c i.toNat)) :
  Triple Try.prog 61 (s61 g i c):=by
 refine triple_of Try.func61 rfl Try.call61 T0_ok _ rfl rfl rfl rfl (Nat.le_of_ble_eq_true (by kernel_rfl)) (fun _ _ _ _ h=>h) ?_
 intro hp C hC _ hE
 obtain ⟨P,w0,E0,av,hA⟩:=C
 subst hC
 refine swp_seq ?_
 refine sQ (kt:=[1,2,3]) (kh:=[0]) (q:=tn 3) (st':=ASt.mk [(1,iv i),(2,iv c),(3,.ptr 0 [])] [(0,.cells 80 (cHs g))] 24) (tp 3) ?_
 refine swp_seq (swp_seq ?_)
 refine sC (cs:=[(3,CallSpec.eq (s102 g i) [true,true]),(6,CallSpec.eq (s103 c) [true]),(8,CallSpec.eq (s101 g (bif isThing g i then within c 0 2 else false)) [true,true])]) (kt:=[1,2,3,8]) (kh:=[0]) (q:=True/\True/\True/\((zE (AV.agg (cHs g))/\iv i=iv i/\True)/\Triple Try.prog 102 (s102 g i)/\fitsH g/\True /\ ∀ (i0:Env),True)/\True/\(isThing g i=true->(True/\True)/\True)/\(isThing g i=true->(True/\(isThing g i=true->isThing g i=true)/\True)/\(iv c=iv c/\True)/\Triple Try.prog 103 (s103 c)/\True/\True /\ ∀ (i4:Env),True)/\((isThing g i=true->isThing g i=true)/\(isThing g i=false->True))/\((zE (AV.agg (cHs g))/\zE (bv (bif isThing g i then within c 0 2 else false))/\True)/\Triple Try.prog 101 (s101 g (bif isThing g i then within c 0 2 else false))/\(okH g=true/\(bif isThing g i then within c 0 2 else false)=true)/\True /\ ∀ (i7:Env),True)/\True/\True) (st':=ASt.mk [(1,iv i),(2,iv c),(3,.ptr 0 []),(8,iv 0)] [(0,.cells 80 (cHs g))] 104) ⟨tv,tv,tv,⟨⟨rfl,rfl,tv⟩,(t102 (g) (i)),(o0 hp),tv,(fun i0=>tv)⟩,tv,(fun h1=>⟨⟨tv,tv⟩,tv⟩),(fun h2=>⟨⟨tv,(fun h3=>h2),tv⟩,⟨rfl,tv⟩,(t103 (c)),tv,tv,(fun i4=>tv)⟩),⟨(fun h5=>h5),(fun h6=>tv)⟩,⟨⟨rfl,rfl,tv⟩,(t101 (g) (bif isThing g i then within c 0 2 else false)),⟨hp.1,(o1 hp)⟩,tv,(fun i7=>tv)⟩,tv,tv⟩ ?_
 refine swp_seq ?_
 refine sQ (kt:=[1,2,3,8,20]) (kh:=[0]) (q:=tn 2) (st':=ASt.mk [(1,iv i),(2,iv c),(3,.ptr 0 []),(8,iv 0),(20,bv false)] [(0,.cells 80 (cHs g))] 120) (tp 2) ?_
 refine swp_cond false (by kernel_rfl) (fun h=>by cases h) (fun _ => ?_)
 refine swp_skip (swp_seq ?_)
 refine sC (cs:=[(2,CallSpec.eq (s104 g c) [true,true])]) (kt:=[9]) (kh:=[]) (q:=True/\True/\((zE (AV.agg (cHs g))/\iv c=iv c/\True)/\Triple Try.prog 104 (s104 g c)/\okH g=true/\True /\ ∀ (i8:Env),True)/\True/\True/\True/\(0<=i/\i < (↑8:Int)/\i < (↑8:Int))/\tn 2) (st':=ASt.mk [(9,iv (tS g c (Hs.things g).length i.toNat))] [] 192) ⟨tv,tv,⟨⟨rfl,rfl,tv⟩,(t104 (g) (c)),hp.1,tv,(fun i8=>tv)⟩,tv,tv,tv,⟨(o2 hp),(o3 hp),(o4 hp)⟩,tp 2⟩ ?_
 refine swp_seq (swp_seq ?_)
 refine sQ (kt:=[9,31]) (kh:=[]) (q:=tn 2) (st':=ASt.mk [(9,iv (tS g c (Hs.things g).length i.toNat)),(31,bv (decide (tS g c (Hs.things g).length i.toNat=100)))] [] 208) (tp 2) ?_
 refine swp_cond (decide (tS g c (Hs.things g).length i.toNat=100)) (by kernel_rfl) (fun h9 => ?_) (fun h9 => ?_)
 ·refine swp_seq ?_
  refine sQ (kt:=[6,7]) (kh:=[]) (q:=tn 2) (st':=ASt.mk [(6,iv 0),(7,iv 3)] [] 224) (tp 2) ?_
  refine swp_ret ?_
  exact rQ [] ((True/\True/\True)/\((zN (iv 0) (iv (sinceR g c i.toNat)))/\(zN (iv 3) (iv (sinceE g c i.toNat)))/\True)/\T3) ⟨⟨tv,tv,tv⟩,⟨⟨(congrArg iv (o5 hp h9)),rfl⟩,⟨(congrArg iv (o6 hp h9)),rfl⟩,tv⟩,rfl,rfl,rfl⟩
 ·refine swp_skip (swp_seq ?_)
  refine sQ (kt:=[6,7]) (kh:=[]) (q:=tn 3) (st':=ASt.mk [(6,iv (tS g c (Hs.things g).length i.toNat)),(7,iv 0)] [] 232) (tp 3) ?_
  refine swp_ret ?_
  exact rQ [] ((True/\True/\True)/\((zN (iv (tS g c (Hs.things g).length i.toNat)) (iv (sinceR g c i.toNat)))/\(zN (iv 0) (iv (sinceE g c i.toNat)))/\True)/\T3) ⟨⟨tv,tv,tv⟩,⟨⟨(congrArg iv (o7 hp h9)),rfl⟩,⟨(congrArg iv (o8 hp h9)),rfl⟩,tv⟩,rfl,rfl,rfl⟩
theorem t61 (g:Hs) (i c:Int):Triple Try.prog 61 (s61 g i c):=by
 apply w61
 all_goals (intro hp; obtain ⟨hok,hi,hc⟩:=hp; obtain ⟨l1,l2,hT,hM⟩:=okH_iff.1 hok)
 case o0=>exact ⟨by omega,by omega⟩
 case o1=>rw [isThing_iff.2 hi,hc]; rfl
 case o3 | o4=>omega
 case o5=>intro hh; have h:sinceV g c i.toNat=100:=of_decide_eq_true hh; rw [sinceR,if_pos h]
 case o6=>intro hh; have h:sinceV g c i.toNat=100:=of_decide_eq_true hh; rw [sinceE,if_pos h]
 case o7=>intro hh; have h:¬ sinceV g c i.toNat=100:=of_decide_eq_false hh; rw [sinceR,if_neg h]; rfl
 case o8=>intro hh; have h:¬ sinceV g c i.toNat=100:=of_decide_eq_false hh; rw [sinceE,if_neg h]
 all_goals (first | ((repeat intro _) <;> (try simp only [v0,v1,v2,v3,v4,v5,v6,v7,v8,v9,inI,fits,Go.Sh.small] at *) <;> first | (exact rfl) | omega | exact vz | (simp_all; done) | (simp_all; omega)) | skip)
abbrev z64_1 (g:Hs) (l:List Int) (m:Int):LoopAnn:=Hint.ann (h64a g l m) [(1,aInts l),(2,iv m),(3,AV.ptr 0 []),(16,aInts l),(17,iv (↑(l.length):Int))] [(0,OB.cells 80 (cHs g))] 10072
abbrev z64_2 (g:Hs) (l:List Int) (m:Int):LoopAnn:=Hint.ann (h64b g l m) [(1,aInts l),(2,iv m),(3,AV.ptr 0 [])] [(0,OB.cells 80 (cHs g))] 20144
abbrev q64_1 (g:Hs) (l:List Int) (m:Int) (C:Prop):Prop:=okH g=true/\plates7 g l m=true/\within m 0 99=true/\l.length<=1125899906842624->C
abbrev q64_2 (g:Hs) (l:List Int) (m:Int) (C:Nat->Prop):Prop:=q64_1 g l m (∀ (x1:Nat),x1<=l.length->decide ((x1:Int) < (↑(l.length):Int))=true->C x1)
abbrev q64_3 (g:Hs) (l:List Int) (m:Int) (C:Nat->Prop):Prop:=q64_2 g l m fun x1=>(isThing g (l.getD x1 0) && !decide ((x1:Int)=0))=true->C x1
abbrev q64_4 (g:Hs) (l:List Int) (m:Int) (C:Nat->Prop):Prop:=q64_2 g l m fun x1=>(bif isThing g (l.getD x1 0) then bif decide ((x1:Int)=0) then true else decide (l.getD ((x1:Int) - 1).toNat 0 < l.getD x1 0) else false)=true->C x1
abbrev q64_5 (g:Hs) (l:List Int) (m:Int) (C:Nat->Prop):Prop:=q64_2 g l m fun x1=>(bif bif isThing g (l.getD x1 0) then bif decide ((x1:Int)=0) then true else decide (l.getD ((x1:Int) - 1).toNat 0 < l.getD x1 0) else false then decide (Thg.prints (thg g (l.getD x1 0).toNat)=1) else false)=true->C x1
abbrev q64_6 (g:Hs) (l:List Int) (m:Int) (C:Nat->Prop):Prop:=q64_1 g l m (∀ (x1:Nat),x1<=l.length->decide ((x1:Int) < (↑(l.length):Int))=false->C x1)
abbrev q64_7 (g:Hs) (l:List Int) (m:Int) (C:Nat->Nat->Prop):Prop:=q64_6 g l m fun x1 => ∀ (x68:Nat),x68<=3->decide ((x68:Int) < 3)=true->C x1 x68
abbrev q64_8 (g:Hs) (l:List Int) (m:Int) (C:Nat->Nat->Prop):Prop:=q64_7 g l m fun x1 x68=>mixedB (tS g (x68:Int) (Hs.things g).length) l m=true->C x1 x68
abbrev q64_9 (g:Hs) (l:List Int) (m:Int) (C:Nat->Nat->Prop):Prop:=q64_7 g l m fun x1 x68=>mixedB (tS g (x68:Int) (Hs.things g).length) l m=false->C x1 x68
theorem w64 (g:Hs) (l:List Int) (m:Int)
 (o0:q64_1 g l m (0=(↑0:Int)))
 (o1:q64_1 g l m (within m 0 99=true))
 (o2:q64_1 g l m (0<=l.length))
 (o3:q64_2 g l m fun x1=>0<=(x1:Int))
 (o4:q64_2 g l m fun x1=>(x1:Int) < (↑(l.length):Int))
 (o5:q64_2 g l m fun x1=>true=true->fitsH g)
 (o6:q64_3 g l m fun x1=>inI ((x1:Int) - 1))
 (o7:q64_3 g l m fun x1=>0<=(x1:Int) - 1)
 (o8:q64_3 g l m fun x1=>(x1:Int) - 1 < (↑(l.length):Int))
 (o9:q64_2 g l m fun x1=>isThing g (l.getD x1 0)=true->decide ((x1:Int)=0)=false->(isThing g (l.getD x1 0) && !decide ((x1:Int)=0))=true)
 (o10:q64_4 g l m fun x1=>0<=l.getD x1 0)
 (o11:q64_4 g l m fun x1=>l.getD x1 0 < (↑((Hs.things g).length):Int))
 (o12:q64_5 g l m fun x1=>0<=l.getD x1 0)
 (o13:q64_5 g l m fun x1=>l.getD x1 0 < (↑((Hs.things g).length):Int))
 (o14:q64_2 g l m fun x1=>inI ((x1:Int) + 1))
 (o15:q64_2 g l m fun x1=>(x1:Int) + 1=(↑(x1 + 1):Int))
 (o16:q64_2 g l m fun x1=>(bif bif bif isThing g (l.getD x1 0) then bif decide ((x1:Int)=0) then true else decide (l.getD ((x1:Int) - 1).toNat 0 < l.getD x1 0) else false then decide (Thg.prints (thg g (l.getD x1 0).toNat)=1) else false then decide (Thg.at_ (thg g (l.getD x1 0).toNat)<=m) else false)=true)
 (o17:q64_2 g l m fun x1=>x1 + 1<=l.length)
 (o18:q64_2 g l m fun x1=>l.length - (x1 + 1) < l.length - x1)
 (o19:q64_6 g l m fun x1=>0=(↑0:Int))
 (o20:q64_6 g l m fun x1=>(mixTo g l m 0).length=0)
 (o21:q64_6 g l m fun x1=>0<=3)
 (o22:q64_7 g l m fun x1 x68=>l.length<=1125899906842624)
 (o23:q64_7 g l m fun x1 x68 => ∀ (i71:Int),i71 ∈ l->0<=i71)
 (o24:q64_7 g l m fun x1 x68 => ∀ (i71:Int),i71 ∈ l->i71 < 8)
 (o25:q64_8 g l m fun x1 x68=>(mixTo g l m x68).length + 1<=65536)
 (o26:q64_8 g l m fun x1 x68=>inI ((x68:Int) + 1))
 (o27:q64_8 g l m fun x1 x68=>(x68:Int) + 1=(↑(x68 + 1):Int))
 (o28:q64_8 g l m fun x1 x68=>(mixTo g l m x68).length + 1=(mixTo g l m (x68 + 1)).length)
 (o29:q64_8 g l m fun x1 x68 => ∀ (i75:Nat),i75 < (mixTo g l m x68).length + 1->catF (mixTo g l m x68).length (fun (k:Nat)=>[iv ((mixTo g l m x68).getD k 0)]) (fun (j:Nat)=>List.getD [[iv (x68:Int)]] j (TI.za ti3)) i75 = [iv ((mixTo g l m (x68 + 1)).getD i75 0)])
 (o30:q64_8 g l m fun x1 x68=>x68 + 1<=3)
 (o31:q64_8 g l m fun x1 x68=>3 - (x68 + 1) < 3 - x68)
 (o32:q64_9 g l m fun x1 x68=>inI ((x68:Int) + 1))
 (o33:q64_9 g l m fun x1 x68=>(x68:Int) + 1=(↑(x68 + 1):Int))
 (o34:q64_9 g l m fun x1 x68=>(mixTo g l m x68).length=(mixTo g l m (x68 + 1)).length)
 (o35:q64_9 g l m fun x1 x68 => ∀ (i77:Nat),i77 < (mixTo g l m x68).length -> [iv ((mixTo g l m x68).getD i77 0)] = [iv ((mixTo g l m (x68 + 1)).getD i77 0)])
 (o36:q64_9 g l m fun x1 x68=>x68 + 1<=3)
 (o37:q64_9 g l m fun x1 x68=>3 - (x68 + 1) < 3 - x68)
 (o38:q64_6 g l m fun x1 => ∀ (x68:Nat),x68<=3->decide ((x68:Int) < 3)=false->(mixTo g l m x68).length=(mixed7 g l m).length)
 (o39:q64_6 g l m fun x1 => ∀ (x68:Nat),x68<=3->decide ((x68:Int) < 3)=false -> ∀ (i79:Nat),i79 < (mixed7 g l m).length -> [iv ((mixTo g l m x68).getD i79 0)] = [iv ((mixed7 g l m).getD i79 0)]) :
  Triple Try.prog 64 (s64 g l m):=by
 refine triple_of Try.func64 rfl Try.call64 T0_ok _ rfl rfl rfl rfl (Nat.le_of_ble_eq_true (by kernel_rfl)) (fun _ _ _ _ h=>h) ?_
 intro hp C hC _ hE
 obtain ⟨P,w0,E0,av,hA⟩:=C
 subst hC
 refine swp_seq ?_
 refine sQ (kt:=[1,2,3]) (kh:=[0]) (q:=tn 3) (st':=ASt.mk [(1,aInts l),(2,iv m),(3,.ptr 0 [])] [(0,.cells 80 (cHs g))] 24) (tp 3) ?_
 refine swp_seq ?_
 refine sC (cs:=[(1,CallSpec.eq (s106 m) [true])]) (kt:=[1,2,3,8]) (kh:=[0]) (q:=True/\((iv m=iv m/\True)/\Triple Try.prog 106 (s106 m)/\True/\True /\ ∀ (i0:Env),True)/\True/\True) (st':=ASt.mk [(1,aInts l),(2,iv m),(3,.ptr 0 []),(8,bv (within m 0 99))] [(0,.cells 80 (cHs g))] 48) ⟨tv,⟨⟨rfl,tv⟩,(t106 (m)),tv,tv,(fun i0=>tv)⟩,tv,tv⟩ ?_
 refine swp_seq (swp_seq ?_)
 refine sQ (kt:=[1,2,3,8,16,17,18]) (kh:=[0]) (q:=tn 3) (st':=ASt.mk [(1,aInts l),(2,iv m),(3,.ptr 0 []),(8,bv (within m 0 99)),(16,aInts l),(17,iv (↑(l.length):Int)),(18,iv 0)] [(0,.cells 80 (cHs g))] 72) (tp 3) ?_
 refine swp_block ?_
 refine swp_loopA (z64_1 g l m) (eQ hE [] [(0,.same 0)] [1,2,16,17] [0] (((zT (aInts l))/\(zT (iv m))/\(zP 0)/\(zT (aInts l))/\(zT (iv (↑(l.length):Int)))/\(zN (iv 0) (iv (↑0:Int)))/\(zN (bv (within m 0 99)) (bv true))/\True)/\((zT (OB.cells 80 (cHs g)))/\True)/\T2) ⟨⟨⟨rfl,rfl⟩,⟨rfl,rfl⟩,⟨rfl,rfl⟩,⟨rfl,rfl⟩,⟨rfl,rfl⟩,⟨(congrArg iv (o0 hp)),rfl⟩,⟨(congrArg bv (o1 hp)),rfl⟩,tv⟩,⟨⟨rfl,rfl⟩,tv⟩,rfl,rfl⟩) (o2 hp) (fun (x1:Nat) hx1 => ?_)
 refine swp_seq ?_
 refine sQ (kt:=[1,2,3,16,17,18,8,19]) (kh:=[0]) (q:=True/\True) (st':=ASt.mk [(1,aInts l),(2,iv m),(3,.ptr 0 []),(16,aInts l),(17,iv (↑(l.length):Int)),(18,iv (x1:Int)),(8,bv true),(19,bv (decide ((x1:Int) < (↑(l.length):Int))))] [(0,.cells 80 (cHs g))] 10080) ⟨tv,tv⟩ ?_
 refine swp_seq ?_
 refine swp_cond (decide ((x1:Int) < (↑(l.length):Int))) (by kernel_rfl) (fun h2 => ?_) (fun h2 => ?_)
 ·refine swp_skip (swp_seq (swp_block (swp_seq ?_)))
  refine sQ (kt:=[1,2,3,16,17,18,8,9,10]) (kh:=[0]) (q:=True/\(0<=(x1:Int)/\(x1:Int) < (↑(l.length):Int))/\tn 3) (st':=ASt.mk [(1,aInts l),(2,iv m),(3,.ptr 0 []),(16,aInts l),(17,iv (↑(l.length):Int)),(18,iv (x1:Int)),(8,bv true),(9,iv (x1:Int)),(10,iv (l.getD x1 0))] [(0,.cells 80 (cHs g))] 10120) ⟨tv,⟨(o3 hp x1 hx1 h2),(o4 hp x1 hx1 h2)⟩,tp 3⟩ ?_
  refine sC (cs:=[(4,CallSpec.eq (s102 g (l.getD x1 0)) [true,true])]) (kt:=[1,2,3,16,17,18,8]) (kh:=[0]) (q:=True/\True/\(true=true->(True/\True)/\True)/\(true=true->(True/\True)/\True)/\(true=true->(True/\(true=true->true=true)/\(true=true->true=true)/\True)/\(zE (AV.agg (cHs g))/\zE (iv (l.getD x1 0))/\True)/\Triple Try.prog 102 (s102 g (l.getD x1 0))/\fitsH g/\True /\ ∀ (i8:Env),True)/\((true=true->true=true)/\(true=false->True))/\True/\(isThing g (l.getD x1 0)=true->(True/\True)/\True)/\(isThing g (l.getD x1 0)=true->((isThing g (l.getD x1 0)=true->isThing g (l.getD x1 0)=true)/\True/\True)/\True)/\(isThing g (l.getD x1 0)=true->((isThing g (l.getD x1 0)=true->isThing g (l.getD x1 0)=true)/\True)/\True)/\((isThing g (l.getD x1 0) && !decide ((x1:Int)=0))=true->(True/\True)/\True)/\((isThing g (l.getD x1 0) && !decide ((x1:Int)=0))=true->(True/\True)/\True)/\((isThing g (l.getD x1 0) && !decide ((x1:Int)=0))=true->(((isThing g (l.getD x1 0) && !decide ((x1:Int)=0))=true->(isThing g (l.getD x1 0) && !decide ((x1:Int)=0))=true)/\True/\True)/\inI ((x1:Int) - 1))/\((isThing g (l.getD x1 0) && !decide ((x1:Int)=0))=true->(((isThing g (l.getD x1 0) && !decide ((x1:Int)=0))=true->(isThing g (l.getD x1 0) && !decide ((x1:Int)=0))=true)/\((isThing g (l.getD x1 0) && !decide ((x1:Int)=0))=true->(isThing g (l.getD x1 0) && !decide ((x1:Int)=0))=true)/\True)/\0<=(x1:Int) - 1/\(x1:Int) - 1 < (↑(l.length):Int))/\((isThing g (l.getD x1 0) && !decide ((x1:Int)=0))=true->(((isThing g (l.getD x1 0) && !decide ((x1:Int)=0))=true->(isThing g (l.getD x1 0) && !decide ((x1:Int)=0))=true)/\True)/\True)/\((isThing g (l.getD x1 0) && !decide ((x1:Int)=0))=true->(True/\True)/\True)/\((isThing g (l.getD x1 0) && !decide ((x1:Int)=0))=true->(((isThing g (l.getD x1 0) && !decide ((x1:Int)=0))=true->(isThing g (l.getD x1 0) && !decide ((x1:Int)=0))=true)/\((isThing g (l.getD x1 0) && !decide ((x1:Int)=0))=true->(isThing g (l.getD x1 0) && !decide ((x1:Int)=0))=true)/\True)/\True)/\(isThing g (l.getD x1 0)=true->((isThing g (l.getD x1 0)=true->isThing g (l.getD x1 0)=true)/\True)/\(decide ((x1:Int)=0)=true->True)/\(decide ((x1:Int)=0)=false->(isThing g (l.getD x1 0) && !decide ((x1:Int)=0))=true))/\((isThing g (l.getD x1 0)=true->isThing g (l.getD x1 0)=true)/\(isThing g (l.getD x1 0)=false->True))/\True/\((bif isThing g (l.getD x1 0) then bif decide ((x1:Int)=0) then true else decide (l.getD ((x1:Int) - 1).toNat 0 < l.getD x1 0) else false)=true->(True/\True)/\True)/\((bif isThing g (l.getD x1 0) then bif decide ((x1:Int)=0) then true else decide (l.getD ((x1:Int) - 1).toNat 0 < l.getD x1 0) else false)=true->(((bif isThing g (l.getD x1 0) then bif decide ((x1:Int)=0) then true else decide (l.getD ((x1:Int) - 1).toNat 0 < l.getD x1 0) else false)=true->(bif isThing g (l.getD x1 0) then bif decide ((x1:Int)=0) then true else decide (l.getD ((x1:Int) - 1).toNat 0 < l.getD x1 0) else false)=true)/\True)/\True)/\((bif isThing g (l.getD x1 0) then bif decide ((x1:Int)=0) then true else decide (l.getD ((x1:Int) - 1).toNat 0 < l.getD x1 0) else false)=true->(True/\True)/\True)/\((bif isThing g (l.getD x1 0) then bif decide ((x1:Int)=0) then true else decide (l.getD ((x1:Int) - 1).toNat 0 < l.getD x1 0) else false)=true->(((bif isThing g (l.getD x1 0) then bif decide ((x1:Int)=0) then true else decide (l.getD ((x1:Int) - 1).toNat 0 < l.getD x1 0) else false)=true->(bif isThing g (l.getD x1 0) then bif decide ((x1:Int)=0) then true else decide (l.getD ((x1:Int) - 1).toNat 0 < l.getD x1 0) else false)=true)/\((bif isThing g (l.getD x1 0) then bif decide ((x1:Int)=0) then true else decide (l.getD ((x1:Int) - 1).toNat 0 < l.getD x1 0) else false)=true->(bif isThing g (l.getD x1 0) then bif decide ((x1:Int)=0) then true else decide (l.getD ((x1:Int) - 1).toNat 0 < l.getD x1 0) else false)=true)/\True)/\0<=l.getD x1 0/\l.getD x1 0 < (↑((Hs.things g).length):Int))/\((bif isThing g (l.getD x1 0) then bif decide ((x1:Int)=0) then true else decide (l.getD ((x1:Int) - 1).toNat 0 < l.getD x1 0) else false)=true->(((bif isThing g (l.getD x1 0) then bif decide ((x1:Int)=0) then true else decide (l.getD ((x1:Int) - 1).toNat 0 < l.getD x1 0) else false)=true->(bif isThing g (l.getD x1 0) then bif decide ((x1:Int)=0) then true else decide (l.getD ((x1:Int) - 1).toNat 0 < l.getD x1 0) else false)=true)/\True)/\True)/\((bif isThing g (l.getD x1 0) then bif decide ((x1:Int)=0) then true else decide (l.getD ((x1:Int) - 1).toNat 0 < l.getD x1 0) else false)=true->(((bif isThing g (l.getD x1 0) then bif decide ((x1:Int)=0) then true else decide (l.getD ((x1:Int) - 1).toNat 0 < l.getD x1 0) else false)=true->(bif isThing g (l.getD x1 0) then bif decide ((x1:Int)=0) then true else decide (l.getD ((x1:Int) - 1).toNat 0 < l.getD x1 0) else false)=true)/\True)/\True)/\((bif isThing g (l.getD x1 0) then bif decide ((x1:Int)=0) then true else decide (l.getD ((x1:Int) - 1).toNat 0 < l.getD x1 0) else false)=true->(((bif isThing g (l.getD x1 0) then bif decide ((x1:Int)=0) then true else decide (l.getD ((x1:Int) - 1).toNat 0 < l.getD x1 0) else false)=true->(bif isThing g (l.getD x1 0) then bif decide ((x1:Int)=0) then true else decide (l.getD ((x1:Int) - 1).toNat 0 < l.getD x1 0) else false)=true)/\True/\True)/\True)/\(((bif isThing g (l.getD x1 0) then bif decide ((x1:Int)=0) then true else decide (l.getD ((x1:Int) - 1).toNat 0 < l.getD x1 0) else false)=true->(bif isThing g (l.getD x1 0) then bif decide ((x1:Int)=0) then true else decide (l.getD ((x1:Int) - 1).toNat 0 < l.getD x1 0) else false)=true)/\((bif isThing g (l.getD x1 0) then bif decide ((x1:Int)=0) then true else decide (l.getD ((x1:Int) - 1).toNat 0 < l.getD x1 0) else false)=false->True))/\True/\((bif bif isThing g (l.getD x1 0) then bif decide ((x1:Int)=0) then true else decide (l.getD ((x1:Int) - 1).toNat 0 < l.getD x1 0) else false then decide (Thg.prints (thg g (l.getD x1 0).toNat)=1) else false)=true->(True/\True)/\True)/\((bif bif isThing g (l.getD x1 0) then bif decide ((x1:Int)=0) then true else decide (l.getD ((x1:Int) - 1).toNat 0 < l.getD x1 0) else false then decide (Thg.prints (thg g (l.getD x1 0).toNat)=1) else false)=true->(((bif bif isThing g (l.getD x1 0) then bif decide ((x1:Int)=0) then true else decide (l.getD ((x1:Int) - 1).toNat 0 < l.getD x1 0) else false then decide (Thg.prints (thg g (l.getD x1 0).toNat)=1) else false)=true->(bif bif isThing g (l.getD x1 0) then bif decide ((x1:Int)=0) then true else decide (l.getD ((x1:Int) - 1).toNat 0 < l.getD x1 0) else false then decide (Thg.prints (thg g (l.getD x1 0).toNat)=1) else false)=true)/\True)/\True)/\((bif bif isThing g (l.getD x1 0) then bif decide ((x1:Int)=0) then true else decide (l.getD ((x1:Int) - 1).toNat 0 < l.getD x1 0) else false then decide (Thg.prints (thg g (l.getD x1 0).toNat)=1) else false)=true->(True/\True)/\True)/\((bif bif isThing g (l.getD x1 0) then bif decide ((x1:Int)=0) then true else decide (l.getD ((x1:Int) - 1).toNat 0 < l.getD x1 0) else false then decide (Thg.prints (thg g (l.getD x1 0).toNat)=1) else false)=true->(((bif bif isThing g (l.getD x1 0) then bif decide ((x1:Int)=0) then true else decide (l.getD ((x1:Int) - 1).toNat 0 < l.getD x1 0) else false then decide (Thg.prints (thg g (l.getD x1 0).toNat)=1) else false)=true->(bif bif isThing g (l.getD x1 0) then bif decide ((x1:Int)=0) then true else decide (l.getD ((x1:Int) - 1).toNat 0 < l.getD x1 0) else false then decide (Thg.prints (thg g (l.getD x1 0).toNat)=1) else false)=true)/\((bif bif isThing g (l.getD x1 0) then bif decide ((x1:Int)=0) then true else decide (l.getD ((x1:Int) - 1).toNat 0 < l.getD x1 0) else false then decide (Thg.prints (thg g (l.getD x1 0).toNat)=1) else false)=true->(bif bif isThing g (l.getD x1 0) then bif decide ((x1:Int)=0) then true else decide (l.getD ((x1:Int) - 1).toNat 0 < l.getD x1 0) else false then decide (Thg.prints (thg g (l.getD x1 0).toNat)=1) else false)=true)/\True)/\0<=l.getD x1 0/\l.getD x1 0 < (↑((Hs.things g).length):Int))/\((bif bif isThing g (l.getD x1 0) then bif decide ((x1:Int)=0) then true else decide (l.getD ((x1:Int) - 1).toNat 0 < l.getD x1 0) else false then decide (Thg.prints (thg g (l.getD x1 0).toNat)=1) else false)=true->(((bif bif isThing g (l.getD x1 0) then bif decide ((x1:Int)=0) then true else decide (l.getD ((x1:Int) - 1).toNat 0 < l.getD x1 0) else false then decide (Thg.prints (thg g (l.getD x1 0).toNat)=1) else false)=true->(bif bif isThing g (l.getD x1 0) then bif decide ((x1:Int)=0) then true else decide (l.getD ((x1:Int) - 1).toNat 0 < l.getD x1 0) else false then decide (Thg.prints (thg g (l.getD x1 0).toNat)=1) else false)=true)/\True)/\True)/\((bif bif isThing g (l.getD x1 0) then bif decide ((x1:Int)=0) then true else decide (l.getD ((x1:Int) - 1).toNat 0 < l.getD x1 0) else false then decide (Thg.prints (thg g (l.getD x1 0).toNat)=1) else false)=true->(((bif bif isThing g (l.getD x1 0) then bif decide ((x1:Int)=0) then true else decide (l.getD ((x1:Int) - 1).toNat 0 < l.getD x1 0) else false then decide (Thg.prints (thg g (l.getD x1 0).toNat)=1) else false)=true->(bif bif isThing g (l.getD x1 0) then bif decide ((x1:Int)=0) then true else decide (l.getD ((x1:Int) - 1).toNat 0 < l.getD x1 0) else false then decide (Thg.prints (thg g (l.getD x1 0).toNat)=1) else false)=true)/\True)/\True)/\((bif bif isThing g (l.getD x1 0) then bif decide ((x1:Int)=0) then true else decide (l.getD ((x1:Int) - 1).toNat 0 < l.getD x1 0) else false then decide (Thg.prints (thg g (l.getD x1 0).toNat)=1) else false)=true->(True/\True)/\True)/\((bif bif isThing g (l.getD x1 0) then bif decide ((x1:Int)=0) then true else decide (l.getD ((x1:Int) - 1).toNat 0 < l.getD x1 0) else false then decide (Thg.prints (thg g (l.getD x1 0).toNat)=1) else false)=true->(((bif bif isThing g (l.getD x1 0) then bif decide ((x1:Int)=0) then true else decide (l.getD ((x1:Int) - 1).toNat 0 < l.getD x1 0) else false then decide (Thg.prints (thg g (l.getD x1 0).toNat)=1) else false)=true->(bif bif isThing g (l.getD x1 0) then bif decide ((x1:Int)=0) then true else decide (l.getD ((x1:Int) - 1).toNat 0 < l.getD x1 0) else false then decide (Thg.prints (thg g (l.getD x1 0).toNat)=1) else false)=true)/\((bif bif isThing g (l.getD x1 0) then bif decide ((x1:Int)=0) then true else decide (l.getD ((x1:Int) - 1).toNat 0 < l.getD x1 0) else false then decide (Thg.prints (thg g (l.getD x1 0).toNat)=1) else false)=true->(bif bif isThing g (l.getD x1 0) then bif decide ((x1:Int)=0) then true else decide (l.getD ((x1:Int) - 1).toNat 0 < l.getD x1 0) else false then decide (Thg.prints (thg g (l.getD x1 0).toNat)=1) else false)=true)/\True)/\True)/\(((bif bif isThing g (l.getD x1 0) then bif decide ((x1:Int)=0) then true else decide (l.getD ((x1:Int) - 1).toNat 0 < l.getD x1 0) else false then decide (Thg.prints (thg g (l.getD x1 0).toNat)=1) else false)=true->(bif bif isThing g (l.getD x1 0) then bif decide ((x1:Int)=0) then true else decide (l.getD ((x1:Int) - 1).toNat 0 < l.getD x1 0) else false then decide (Thg.prints (thg g (l.getD x1 0).toNat)=1) else false)=true)/\((bif bif isThing g (l.getD x1 0) then bif decide ((x1:Int)=0) then true else decide (l.getD ((x1:Int) - 1).toNat 0 < l.getD x1 0) else false then decide (Thg.prints (thg g (l.getD x1 0).toNat)=1) else false)=false->True))/\True/\True) (st':=ASt.mk [(1,aInts l),(2,iv m),(3,.ptr 0 []),(16,aInts l),(17,iv (↑(l.length):Int)),(18,iv (x1:Int)),(8,bv (bif bif bif isThing g (l.getD x1 0) then bif decide ((x1:Int)=0) then true else decide (l.getD ((x1:Int) - 1).toNat 0 < l.getD x1 0) else false then decide (Thg.prints (thg g (l.getD x1 0).toNat)=1) else false then decide (Thg.at_ (thg g (l.getD x1 0).toNat)<=m) else false))] [(0,.cells 80 (cHs g))] 10432) ⟨tv,tv,(fun h3=>⟨⟨tv,tv⟩,tv⟩),(fun h4=>⟨⟨tv,tv⟩,tv⟩),(fun h5=>⟨⟨tv,(fun h6=>rfl),(fun h7=>rfl),tv⟩,⟨rfl,rfl,tv⟩,(t102 (g) (l.getD x1 0)),(o5 hp x1 hx1 h2 h5),tv,(fun i8=>tv)⟩),⟨(fun h9=>rfl),(fun h10=>tv)⟩,tv,(fun h11=>⟨⟨tv,tv⟩,tv⟩),(fun h12=>⟨⟨(fun h13=>h12),tv,tv⟩,tv⟩),(fun h14=>⟨⟨(fun h15=>h14),tv⟩,tv⟩),(fun h16=>⟨⟨tv,tv⟩,tv⟩),(fun h17=>⟨⟨tv,tv⟩,tv⟩),(fun h18=>⟨⟨(fun h19=>h18),tv,tv⟩,(o6 hp x1 hx1 h2 h18)⟩),(fun h20=>⟨⟨(fun h21=>h20),(fun h22=>h20),tv⟩,(o7 hp x1 hx1 h2 h20),(o8 hp x1 hx1 h2 h20)⟩),(fun h23=>⟨⟨(fun h24=>h23),tv⟩,tv⟩),(fun h25=>⟨⟨tv,tv⟩,tv⟩),(fun h26=>⟨⟨(fun h27=>h26),(fun h28=>h26),tv⟩,tv⟩),(fun h29=>⟨⟨(fun h30=>h29),tv⟩,(fun h31=>tv),(fun h32=>(o9 hp x1 hx1 h2 h29 h32))⟩),⟨(fun h33=>h33),(fun h34=>tv)⟩,tv,(fun h35=>⟨⟨tv,tv⟩,tv⟩),(fun h36=>⟨⟨(fun h37=>h36),tv⟩,tv⟩),(fun h38=>⟨⟨tv,tv⟩,tv⟩),(fun h39=>⟨⟨(fun h40=>h39),(fun h41=>h39),tv⟩,(o10 hp x1 hx1 h2 h39),(o11 hp x1 hx1 h2 h39)⟩),(fun h42=>⟨⟨(fun h43=>h42),tv⟩,tv⟩),(fun h44=>⟨⟨(fun h45=>h44),tv⟩,tv⟩),(fun h46=>⟨⟨(fun h47=>h46),tv,tv⟩,tv⟩),⟨(fun h48=>h48),(fun h49=>tv)⟩,tv,(fun h50=>⟨⟨tv,tv⟩,tv⟩),(fun h51=>⟨⟨(fun h52=>h51),tv⟩,tv⟩),(fun h53=>⟨⟨tv,tv⟩,tv⟩),(fun h54=>⟨⟨(fun h55=>h54),(fun h56=>h54),tv⟩,(o12 hp x1 hx1 h2 h54),(o13 hp x1 hx1 h2 h54)⟩),(fun h57=>⟨⟨(fun h58=>h57),tv⟩,tv⟩),(fun h59=>⟨⟨(fun h60=>h59),tv⟩,tv⟩),(fun h61=>⟨⟨tv,tv⟩,tv⟩),(fun h62=>⟨⟨(fun h63=>h62),(fun h64=>h62),tv⟩,tv⟩),⟨(fun h65=>h65),(fun h66=>tv)⟩,tv,tv⟩ ?_
  refine sQ (kt:=[1,2,3,16,17,18,8]) (kh:=[0]) (q:=inI ((x1:Int) + 1)/\True/\True) (st':=ASt.mk [(1,aInts l),(2,iv m),(3,.ptr 0 []),(16,aInts l),(17,iv (↑(l.length):Int)),(18,iv ((x1:Int) + 1)),(8,bv (bif bif bif isThing g (l.getD x1 0) then bif decide ((x1:Int)=0) then true else decide (l.getD ((x1:Int) - 1).toNat 0 < l.getD x1 0) else false then decide (Thg.prints (thg g (l.getD x1 0).toNat)=1) else false then decide (Thg.at_ (thg g (l.getD x1 0).toNat)<=m) else false))] [(0,.cells 80 (cHs g))] 10448) ⟨(o14 hp x1 hx1 h2),tv,tv⟩ ?_
  exact loop_next (z64_1 g l m) x1 (eQ hE [] [(0,.same 0)] [1,2,16,17] [0] (((zT (aInts l))/\(zT (iv m))/\(zP 0)/\(zT (aInts l))/\(zT (iv (↑(l.length):Int)))/\(zN (iv ((x1:Int) + 1)) (iv (↑(x1 + 1):Int)))/\(zN (bv (bif bif bif isThing g (l.getD x1 0) then bif decide ((x1:Int)=0) then true else decide (l.getD ((x1:Int) - 1).toNat 0 < l.getD x1 0) else false then decide (Thg.prints (thg g (l.getD x1 0).toNat)=1) else false then decide (Thg.at_ (thg g (l.getD x1 0).toNat)<=m) else false)) (bv true))/\True)/\((zT (OB.cells 80 (cHs g)))/\True)/\T2) ⟨⟨⟨rfl,rfl⟩,⟨rfl,rfl⟩,⟨rfl,rfl⟩,⟨rfl,rfl⟩,⟨rfl,rfl⟩,⟨(congrArg iv (o15 hp x1 hx1 h2)),rfl⟩,⟨(congrArg bv (o16 hp x1 hx1 h2)),rfl⟩,tv⟩,⟨⟨rfl,rfl⟩,tv⟩,rfl,rfl⟩) (o17 hp x1 hx1 h2) (o18 hp x1 hx1 h2)
 ·refine swp_exit (swp_seq (swp_seq ?_))
  refine sC (cs:=[(2,CallSpec.eq (s101 g true) [true,true])]) (kt:=[1,2,3,11]) (kh:=[0]) (q:=True/\True/\((zE (AV.agg (cHs g))/\zE (bv true)/\True)/\Triple Try.prog 101 (s101 g true)/\(okH g=true/\true=true)/\True /\ ∀ (i67:Env),True)/\True/\True) (st':=ASt.mk [(1,aInts l),(2,iv m),(3,.ptr 0 []),(11,iv 0)] [(0,.cells 80 (cHs g))] 10112) ⟨tv,tv,⟨⟨rfl,rfl,tv⟩,(t101 (g) (true)),⟨hp.1,rfl⟩,tv,(fun i67=>tv)⟩,tv,tv⟩ ?_
  refine swp_seq ?_
  refine sQ (kt:=[1,2,3,11,66]) (kh:=[0]) (q:=tn 2) (st':=ASt.mk [(1,aInts l),(2,iv m),(3,.ptr 0 []),(11,iv 0),(66,bv false)] [(0,.cells 80 (cHs g))] 10128) (tp 2) ?_
  refine swp_cond false (by kernel_rfl) (fun h=>by cases h) (fun _ => ?_)
  refine swp_skip (swp_seq ?_)
  refine sQ (kt:=[1,2,3,12]) (kh:=[0]) (q:=True/\True) (st':=ASt.mk [(1,aInts l),(2,iv m),(3,.ptr 0 []),(12,nilv)] [(0,.cells 80 (cHs g))] 10136) ⟨tv,tv⟩ ?_
  refine swp_seq (swp_seq ?_)
  refine sQ (kt:=[1,2,3,12,68]) (kh:=[0]) (q:=True/\True) (st':=ASt.mk [(1,aInts l),(2,iv m),(3,.ptr 0 []),(12,nilv),(68,iv 0)] [(0,.cells 80 (cHs g))] 10144) ⟨tv,tv⟩ ?_
  refine swp_block ?_
  refine swp_loopA (z64_2 g l m) (eQ hE [] [(0,.same 0),(5000,.nil)] [1,2] [0] (((zT (aInts l))/\(zT (iv m))/\(zP 0)/\(zN (iv 0) (iv (↑0:Int)))/\zE (some Src.nil)/\True)/\((zT (OB.cells 80 (cHs g)))/\(mixTo g l m 0).length=0/\True)/\T2) ⟨⟨⟨rfl,rfl⟩,⟨rfl,rfl⟩,⟨rfl,rfl⟩,⟨(congrArg iv (o19 hp x1 hx1 h2)),rfl⟩,rfl,tv⟩,⟨⟨rfl,rfl⟩,(o20 hp x1 hx1 h2),tv⟩,rfl,rfl⟩) (o21 hp x1 hx1 h2) (fun (x68:Nat) hx68 => ?_)
  refine swp_seq ?_
  refine sQ (kt:=[1,2,3,68,12,69]) (kh:=[0,5000]) (q:=True/\True) (st':=ASt.mk [(1,aInts l),(2,iv m),(3,.ptr 0 []),(68,iv (x68:Int)),(12,.vec 5000),(69,bv (decide ((x68:Int) < 3)))] [(0,.cells 80 (cHs g)),(5000,.vec 3 1 (mixTo g l m x68).length fun (k:Nat)=>[iv ((mixTo g l m x68).getD k 0)])] 20152) ⟨tv,tv⟩ ?_
  refine swp_seq ?_
  refine swp_cond (decide ((x68:Int) < 3)) (by kernel_rfl) (fun h69 => ?_) (fun h69 => ?_)
  ·refine swp_skip (swp_seq (swp_block (swp_seq ?_)))
   refine sQ (kt:=[1,2,3,68,12,13]) (kh:=[0,5000]) (q:=tn 2) (st':=ASt.mk [(1,aInts l),(2,iv m),(3,.ptr 0 []),(68,iv (x68:Int)),(12,.vec 5000),(13,iv (x68:Int))] [(0,.cells 80 (cHs g)),(5000,.vec 3 1 (mixTo g l m x68).length fun (k:Nat)=>[iv ((mixTo g l m x68).getD k 0)])] 20168) (tp 2) ?_
   refine swp_seq ?_
   refine sC (cs:=[(2,CallSpec.eq (s104 g (x68:Int)) [true,true]),(5,CallSpec.eq (s107 g (x68:Int) (tS g (x68:Int) (Hs.things g).length) (tB g (x68:Int) (Hs.things g).length) l m) [true,true,true])]) (kt:=[1,2,3,68,12,13,76]) (kh:=[0,5000]) (q:=True/\True/\((zE (AV.agg (cHs g))/\zE (iv (x68:Int))/\True)/\Triple Try.prog 104 (s104 g (x68:Int))/\okH g=true/\True /\ ∀ (i70:Env),True)/\True/\True/\((zE (AV.rp (cHo g (x68:Int) (tS g (x68:Int) (Hs.things g).length) (tB g (x68:Int) (Hs.things g).length)))/\zE (aInts l)/\iv m=iv m/\True)/\Triple Try.prog 107 (s107 g (x68:Int) (tS g (x68:Int) (Hs.things g).length) (tB g (x68:Int) (Hs.things g).length) l m)/\(l.length<=1125899906842624 /\ ∀ (i71:Int),i71 ∈ l->0<=i71/\i71 < 8)/\True /\ ∀ (i73:Env),True)/\True) (st':=ASt.mk [(1,aInts l),(2,iv m),(3,.ptr 0 []),(68,iv (x68:Int)),(12,.vec 5000),(13,iv (x68:Int)),(76,bv (mixedB (tS g (x68:Int) (Hs.things g).length) l m))] [(0,.cells 80 (cHs g)),(5000,.vec 3 1 (mixTo g l m x68).length fun (k:Nat)=>[iv ((mixTo g l m x68).getD k 0)])] 20216) ⟨tv,tv,⟨⟨rfl,rfl,tv⟩,(t104 (g) ((x68:Int))),hp.1,tv,(fun i70=>tv)⟩,tv,tv,⟨⟨rfl,rfl,rfl,tv⟩,(t107 (g) ((x68:Int)) (tS g (x68:Int) (Hs.things g).length) (tB g (x68:Int) (Hs.things g).length) (l) (m)),⟨(o22 hp x1 hx1 h2 x68 hx68 h69),(fun i71=>(fun h72=>⟨(o23 hp x1 hx1 h2 x68 hx68 h69 i71 h72),(o24 hp x1 hx1 h2 x68 hx68 h69 i71 h72)⟩))⟩,tv,(fun i73=>tv)⟩,tv⟩ ?_
   refine swp_cond (mixedB (tS g (x68:Int) (Hs.things g).length) l m) (by kernel_rfl) (fun h74 => ?_) (fun h74 => ?_)
   ·refine sQ (kt:=[1,2,3,68,12]) (kh:=[0,20240]) (q:=True/\True/\True/\(mixTo g l m x68).length + 1<=65536/\True/\True) (st':=ASt.mk [(1,aInts l),(2,iv m),(3,.ptr 0 []),(68,iv (x68:Int)),(12,.vec 20240)] [(0,.cells 80 (cHs g)),(20240,.vec 3 1 ((mixTo g l m x68).length + 1) (catF (mixTo g l m x68).length (fun (k:Nat)=>[iv ((mixTo g l m x68).getD k 0)]) fun (j:Nat)=>List.getD [[iv (x68:Int)]] j (TI.za ti3)))] 20256) ⟨tv,tv,tv,(o25 hp x1 hx1 h2 x68 hx68 h69 h74),tv,tv⟩ ?_
    refine sQ (kt:=[1,2,3,68,12]) (kh:=[0,20240]) (q:=inI ((x68:Int) + 1)/\True/\True) (st':=ASt.mk [(1,aInts l),(2,iv m),(3,.ptr 0 []),(68,iv ((x68:Int) + 1)),(12,.vec 20240)] [(0,.cells 80 (cHs g)),(20240,.vec 3 1 ((mixTo g l m x68).length + 1) (catF (mixTo g l m x68).length (fun (k:Nat)=>[iv ((mixTo g l m x68).getD k 0)]) fun (j:Nat)=>List.getD [[iv (x68:Int)]] j (TI.za ti3)))] 20272) ⟨(o26 hp x1 hx1 h2 x68 hx68 h69 h74),tv,tv⟩ ?_
    exact loop_next (z64_2 g l m) x68 (eQ hE [] [(0,.same 0),(5000,.same 20240)] [1,2] [0] (((zT (aInts l))/\(zT (iv m))/\(zP 0)/\(zN (iv ((x68:Int) + 1)) (iv (↑(x68 + 1):Int)))/\zE (some (Src.same 20240))/\True)/\((zT (OB.cells 80 (cHs g)))/\(3=3/\1=1/\(mixTo g l m x68).length + 1=(mixTo g l m (x68 + 1)).length /\ ∀ (i75:Nat),i75 < (mixTo g l m x68).length + 1->catF (mixTo g l m x68).length (fun (k:Nat)=>[iv ((mixTo g l m x68).getD k 0)]) (fun (j:Nat)=>List.getD [[iv (x68:Int)]] j (TI.za ti3)) i75 = [iv ((mixTo g l m (x68 + 1)).getD i75 0)])/\True)/\T2) ⟨⟨⟨rfl,rfl⟩,⟨rfl,rfl⟩,⟨rfl,rfl⟩,⟨(congrArg iv (o27 hp x1 hx1 h2 x68 hx68 h69 h74)),rfl⟩,rfl,tv⟩,⟨⟨rfl,rfl⟩,⟨rfl,rfl,(o28 hp x1 hx1 h2 x68 hx68 h69 h74),(fun i75=>(fun h76=>(o29 hp x1 hx1 h2 x68 hx68 h69 h74 i75 h76)))⟩,tv⟩,rfl,rfl⟩) (o30 hp x1 hx1 h2 x68 hx68 h69 h74) (o31 hp x1 hx1 h2 x68 hx68 h69 h74)
   ·refine swp_skip ?_
    refine sQ (kt:=[1,2,3,68,12]) (kh:=[0,5000]) (q:=inI ((x68:Int) + 1)/\True/\True) (st':=ASt.mk [(1,aInts l),(2,iv m),(3,.ptr 0 []),(68,iv ((x68:Int) + 1)),(12,.vec 5000)] [(0,.cells 80 (cHs g)),(5000,.vec 3 1 (mixTo g l m x68).length fun (k:Nat)=>[iv ((mixTo g l m x68).getD k 0)])] 20232) ⟨(o32 hp x1 hx1 h2 x68 hx68 h69 h74),tv,tv⟩ ?_
    exact loop_next (z64_2 g l m) x68 (eQ hE [] [(0,.same 0),(5000,.same 5000)] [1,2] [0] (((zT (aInts l))/\(zT (iv m))/\(zP 0)/\(zN (iv ((x68:Int) + 1)) (iv (↑(x68 + 1):Int)))/\zE (some (Src.same 5000))/\True)/\((zT (OB.cells 80 (cHs g)))/\(3=3/\1=1/\(mixTo g l m x68).length=(mixTo g l m (x68 + 1)).length /\ ∀ (i77:Nat),i77 < (mixTo g l m x68).length -> [iv ((mixTo g l m x68).getD i77 0)] = [iv ((mixTo g l m (x68 + 1)).getD i77 0)])/\True)/\T2) ⟨⟨⟨rfl,rfl⟩,⟨rfl,rfl⟩,⟨rfl,rfl⟩,⟨(congrArg iv (o33 hp x1 hx1 h2 x68 hx68 h69 h74)),rfl⟩,rfl,tv⟩,⟨⟨rfl,rfl⟩,⟨rfl,rfl,(o34 hp x1 hx1 h2 x68 hx68 h69 h74),(fun i77=>(fun h78=>(o35 hp x1 hx1 h2 x68 hx68 h69 h74 i77 h78)))⟩,tv⟩,rfl,rfl⟩) (o36 hp x1 hx1 h2 x68 hx68 h69 h74) (o37 hp x1 hx1 h2 x68 hx68 h69 h74)
  ·refine swp_exit (swp_seq ?_)
   refine sQ (kt:=[6,7]) (kh:=[5000]) (q:=tn 3) (st':=ASt.mk [(6,.vec 5000),(7,iv 0)] [(5000,.vec 3 1 (mixTo g l m x68).length fun (k:Nat)=>[iv ((mixTo g l m x68).getD k 0)])] 20176) (tp 3) ?_
   refine swp_ret ?_
   exact rQ [5000] ((True/\True/\True)/\((1=1/\(mixTo g l m x68).length=(mixed7 g l m).length /\ ∀ (i79:Nat),i79 < (mixed7 g l m).length -> [iv ((mixTo g l m x68).getD i79 0)] = [iv ((mixed7 g l m).getD i79 0)])/\(zM (iv 0))/\True)/\T3) ⟨⟨tv,tv,tv⟩,⟨⟨rfl,(o38 hp x1 hx1 h2 x68 hx68 h69),(fun i79=>(fun h80=>(o39 hp x1 hx1 h2 x68 hx68 h69 i79 h80)))⟩,⟨rfl,rfl⟩,tv⟩,rfl,rfl,rfl⟩
theorem plates_and {g:Hs} {l:List Int} {m:Int} (h:plates7 g l m=true):rising l 0 ((g.things.length:Int) - 1)=true /\ ∀ n,n ∈ l->plOK g m n=true:=by
 simp only [plates7,Bool.and_eq_true,List.all_eq_true] at h; exact h
theorem mixTo_len (g:Hs) (l:List Int) (m:Int):∀ n,(mixTo g l m n).length<=n:=by
 intro n
 induction n with
 | zero=>exact Nat.le_refl _
 | succ n ih =>
  rw [mixTo]
  split
  ·rw [List.length_append,List.length_singleton]; omega
  ·omega
theorem mixTo_t {g:Hs} {l:List Int} {m:Int} {n:Nat} (h:mixedB (tS g (n:Int) g.things.length) l m=true):mixTo g l m (n + 1)=mixTo g l m n ++ [(n:Int)]:=by
 have h':mixedB (sinceV g (n:Int)) l m=true:=h
 rw [mixTo,if_pos h']
theorem mixTo_f {g:Hs} {l:List Int} {m:Int} {n:Nat} (h:mixedB (tS g (n:Int) g.things.length) l m=false):mixTo g l m (n + 1)=mixTo g l m n:=by
 have h':mixedB (sinceV g (n:Int)) l m=false:=h
 rw [mixTo,h']; rfl
theorem plate_ok {g:Hs} {l:List Int} {m:Int} (hok:okH g=true) (hr:rising l 0 ((g.things.length:Int) - 1)=true) (hA:∀ n,n ∈ l->plOK g m n=true) {x:Nat} (hx:x < l.length):(bif bif bif isThing g (l.getD x 0) then bif decide ((x:Int)=0) then true else decide (l.getD ((x:Int) - 1).toNat 0 < l.getD x 0) else false then decide ((thg g (l.getD x 0).toNat).prints=1) else false then decide ((thg g (l.getD x 0).toNat).at_<=m) else false)=true:=by
 have h1:=rising_at hr hx
 have h2:=List.all_eq_true.1 hr x (List.mem_range.2 hx)
 have h3:=hA _ (Go.Ab.getD_mem l 0 hx)
 have h4:=okT_facts ((okH_iff.1 hok).2.2.1 (l.getD x 0).toNat (by omega))
 have h5:=Go.Sh.within_iff.1 h4.2.2.2.2
 simp only [plOK,Bool.and_eq_true,Bool.not_eq_true',decide_eq_false_iff_not] at h3
 simp only [risAt,Bool.and_eq_true,Bool.or_eq_true,Bool.not_eq_true',decide_eq_false_iff_not] at h2
 rw [isThing_iff.2 (by omega),decide_eq_true (p:=(thg g (l.getD x 0).toNat).prints=1) (by omega),decide_eq_true (p:=(thg g (l.getD x 0).toNat).at_<=m) (by omega)]
 by_cases e:(x:Int)=0
 ·rw [decide_eq_true e]; rfl
 ·have e2:((x:Int) - 1).toNat=x - 1:=by omega
  rw [decide_eq_false e,e2,decide_eq_true (p:=l.getD (x - 1) 0 < l.getD x 0) (by omega)]; rfl
theorem t64 (g:Hs) (l:List Int) (m:Int):Triple Try.prog 64 (s64 g l m):=by
 apply w64
 all_goals (first | ((repeat intro _) <;> (try simp only [v0,v1,v2,v3,v4,v5,v6,v7,v8,v9,inI,fits,Go.Sh.small] at *) <;> first | (exact rfl) | omega | exact vz | (simp_all; done) | (simp_all; omega)) | skip)
 all_goals (intro hp; obtain ⟨hok,hpl,hm,hll⟩:=hp; obtain ⟨l1,l2,hT,hM⟩:=okH_iff.1 hok; obtain ⟨hr,hA⟩:=plates_and hpl)
 all_goals (intro x hx hl; simp only [decide_eq_true_eq,decide_eq_false_iff_not] at hl)
 case o5=>intro _; exact ⟨by omega,by omega⟩
 case o10 | o11 | o12 | o13=>intro _; have:=rising_at hr (i:=x) (by omega); omega
 case o16=>exact plate_ok hok hr hA (by omega)
 all_goals (intro y hy hyl; simp only [decide_eq_true_eq,decide_eq_false_iff_not] at hyl)
 case o23 | o24 =>
  intro n hn
  obtain ⟨i,hi,rfl⟩:=List.getElem_of_mem hn
  have:=rising_at hr hi
  rw [Go.Ab.getD_lt _ _ hi] at this
  omega
 case o38 | o39 =>
  have e:y=3:=by omega
  rw [e]
  first | rfl | (intro i hi; rfl)
 all_goals (intro hh)
 case o25=>have:=mixTo_len g l m y; omega
 case o28=>rw [mixTo_t hh,List.length_append]; rfl
 case o29=>intro i hi; rw [mixTo_t hh]; exact catF_one _ _ 0 (fun z=>[iv z]) rfl (fun _ _=>rfl) rfl hi
 case o34=>rw [mixTo_f hh]
 case o35=>intro i hi; rw [mixTo_f hh]
end Go.Ab
namespace Go.Sh
def thTo (P:Nat->Bool):Nat->List Int
 | 0=>[]
 | n + 1=>if P n then thTo P n ++ [(n:Int)] else thTo P n
def atP (h:Hs) (m:Int) (i:Nat):Bool:=decide ((thg h i).prints=1) && decide ((thg h i).at_<=m)
def timeTo (h:Hs) (c:Int):Nat->Span
 | 0=>⟨100,0⟩
 | n + 1=>if mixedB (sinceV h c) (thTo (atP h (n:Int)) h.things.length) (n:Int) then ⟨min (timeTo h c n).lo (n:Int),(n:Int)⟩ else timeTo h c n
def timeV (h:Hs) (c:Int):Span:=if (timeTo h c 100).lo=100 then ⟨0,0⟩ else timeTo h c 100
def timeE (h:Hs) (c:Int):Int:=if (timeTo h c 100).lo=100 then 3 else 0
end Go.Sh
namespace Go.Ab
open Go Go.RowKit Go.Proofs Go.Sh Go.En
def s128 (g:Hs) (c:Int) (S B:Nat->Int) (n m:Int):CallSpec:={ args:=[.rp (cHo g c S B),iv n,iv m],res:=bv (decide ((thg g n.toNat).at_<=m)),pre:=0<=n/\n < g.things.length }
def s127 (n:Int) (t:Thg) (g:Hs) (c:Int) (S B:Nat->Int) (m:Int):CallSpec:={ args:=[iv n,vThg t,.rp [.rp (cHo g c S B)],.rp [iv m]],res:=bv (decide (t.prints=1) && decide ((thg g n.toNat).at_<=m)),pre:=0<=n/\n < g.things.length }
def s126 (g:Hs) (c:Int) (S B:Nat->Int) (P:Nat->Bool):CallSpec:={ args:=[.rp (cHo g c S B),.fn 0],res:=aInts (thTo P g.things.length),pre:=g.things.length<=8,fnok:=fnokOf Try.prog 0 (fun i:{ i:Nat // i < g.things.length }=>[iv (i.1:Int),vThg (thg g i.1)]) (fun i=>bv (P i.1)) }
def h126 (g:Hs) (c:Int) (S B:Nat->Int) (P:Nat->Bool):Hint:={ X:=Nat,M:=fun i=>[(13,iv i),(4,.vec 5000)],H:=fun i=>[(5000,.vec 3 1 (thTo P i).length (fun k=>[iv ((thTo P i).getD k 0)]))],I:=fun i=>i<=g.things.length,mu:=fun i=>g.things.length - i,x0:=(0:Nat),nx:=fun i=>i + 1 }
def c126 (g:Hs) (c:Int) (S B:Nat->Int) (P:Nat->Bool) (x:Nat):CallSpec:={ args:=[iv x,vThg (thg g x)],res:=bv (P x) }
def s100 (g:Hs) (c:Int):CallSpec:={ args:=[vHs g,iv c],res := .tup [vSpan (timeV g c),iv (timeE g c)],pre:=okH g=true/\within c 0 2=true }
def h100 (g:Hs) (c:Int):Hint:={ X:=Nat,M:=fun i=>[(23,iv i),(8,.ptr 5000 [])],H:=fun i=>[(5000,.cells 37 (cSpan (timeTo g c i)))],I:=fun i=>i<=100,mu:=fun i=>100 - i,x0:=(0:Nat),nx:=fun i=>i + 1 }
def c100a (g:Hs) (c:Int) (x:Nat):CallSpec:=s126 g c (tS g c g.things.length) (tB g c g.things.length) (atP g (x:Int))
end Go.Ab
namespace Go.Ab
open Go Go.RowKit Go.Proofs Go.Sh Go.En
theorem w128 (g:Hs) (c:Int) (S:Nat->Int) (B:Nat->Int) (n:Int) (m:Int) :
  Triple Try.prog 128 (s128 g c S B n m):=by
 refine triple_of Try.func128 rfl Try.call128 T0_ok _ rfl rfl rfl rfl (Nat.le_of_ble_eq_true (by kernel_rfl)) (fun _ _ _ _ h=>h) ?_
 intro hp C hC _ hE
 obtain ⟨P,w0,E0,av,hA⟩:=C
 subst hC
 refine swp_seq ?_
 refine sQ (kt:=[0,1,2]) (kh:=[]) (q:=True/\True) (st':=ASt.mk [(0,.rp (cHo g c S B)),(1,iv n),(2,iv m)] [] 8) ⟨tv,tv⟩ ?_
 refine swp_seq ?_
 refine sQ (kt:=[6]) (kh:=[]) (q:=True/\True/\True/\True/\True/\True/\(0<=n/\n < (↑((Hs.things g).length):Int))/\tn 5) (st':=ASt.mk [(6,bv (decide (Thg.at_ (thg g n.toNat)<=m)))] [] 104) ⟨tv,tv,tv,tv,tv,tv,⟨hp.1,hp.2⟩,tp 5⟩ ?_
 refine swp_ret ?_
 exact rQ [] ((True/\True)/\(zM (bv (decide (Thg.at_ (thg g n.toNat)<=m))))/\T3) ⟨⟨tv,tv⟩,⟨rfl,rfl⟩,rfl,rfl,rfl⟩
theorem t128 (g:Hs) (c:Int) (S B:Nat->Int) (n m:Int):Triple Try.prog 128 (s128 g c S B n m):=by
 apply w128
 all_goals (first | ((repeat intro _) <;> (try simp only [v0,v1,v2,v3,v4,v5,v6,v7,v8,v9,inI,fits,Go.Sh.small] at *) <;> first | (exact rfl) | omega | exact vz | (simp_all; done) | (simp_all; omega)) | skip)
theorem w127 (n:Int) (t:Thg) (g:Hs) (c:Int) (S:Nat->Int) (B:Nat->Int) (m:Int)
  (o0:0<=n/\n < (↑((Hs.things g).length):Int)->(bif decide (Thg.prints t=1) then decide (Thg.at_ (thg g n.toNat)<=m) else false)=(decide (Thg.prints t=1) && decide (Thg.at_ (thg g n.toNat)<=m))) :
  Triple Try.prog 127 (s127 n t g c S B m):=by
 refine triple_of Try.func127 rfl Try.call127 T0_ok _ rfl rfl rfl rfl (Nat.le_of_ble_eq_true (by kernel_rfl)) (fun _ _ _ _ h=>h) ?_
 intro hp C hC _ hE
 obtain ⟨P,w0,E0,av,hA⟩:=C
 subst hC
 refine swp_seq ?_
 refine sQ (kt:=[0,2,3,5]) (kh:=[0]) (q:=tn 2) (st':=ASt.mk [(0,iv n),(2,.rp [.rp (cHo g c S B)]),(3,.rp [iv m]),(5,.ptr 0 [])] [(0,.cells 88 (cThg t))] 16) (tp 2) ?_
 refine swp_seq ?_
 refine sC (cs:=[(7,CallSpec.eq (s128 g c S B n m) [true,true,true])]) (kt:=[6]) (kh:=[]) (q:=True/\True/\True/\True/\(decide (Thg.prints t=1)=true->(True/\True)/\True)/\(decide (Thg.prints t=1)=true->(True/\True)/\True)/\(decide (Thg.prints t=1)=true->(True/\True)/\True)/\(decide (Thg.prints t=1)=true->(True/\(decide (Thg.prints t=1)=true->decide (Thg.prints t=1)=true)/\(decide (Thg.prints t=1)=true->decide (Thg.prints t=1)=true)/\(decide (Thg.prints t=1)=true->decide (Thg.prints t=1)=true)/\True)/\(zE (AV.rp (cHo g c S B))/\iv n=iv n/\iv m=iv m/\True)/\Triple Try.prog 128 (s128 g c S B n m)/\(0<=n/\n < (↑((Hs.things g).length):Int))/\True /\ ∀ (i7:Env),True)/\((decide (Thg.prints t=1)=true->decide (Thg.prints t=1)=true)/\(decide (Thg.prints t=1)=false->True))/\True/\True) (st':=ASt.mk [(6,bv (bif decide (Thg.prints t=1) then decide (Thg.at_ (thg g n.toNat)<=m) else false))] [] 96) ⟨tv,tv,tv,tv,(fun h0=>⟨⟨tv,tv⟩,tv⟩),(fun h1=>⟨⟨tv,tv⟩,tv⟩),(fun h2=>⟨⟨tv,tv⟩,tv⟩),(fun h3=>⟨⟨tv,(fun h4=>h3),(fun h5=>h3),(fun h6=>h3),tv⟩,⟨rfl,rfl,rfl,tv⟩,(t128 (g) (c) (S) (B) (n) (m)),⟨hp.1,hp.2⟩,tv,(fun i7=>tv)⟩),⟨(fun h8=>h8),(fun h9=>tv)⟩,tv,tv⟩ ?_
 refine swp_ret ?_
 exact rQ [] ((True/\True)/\(zN (bv (bif decide (Thg.prints t=1) then decide (Thg.at_ (thg g n.toNat)<=m) else false)) (bv (decide (Thg.prints t=1) && decide (Thg.at_ (thg g n.toNat)<=m))))/\T3) ⟨⟨tv,tv⟩,⟨(congrArg bv (o0 hp)),rfl⟩,rfl,rfl,rfl⟩
theorem t127 (n:Int) (t:Thg) (g:Hs) (c:Int) (S B:Nat->Int) (m:Int):Triple Try.prog 127 (s127 n t g c S B m):=by
 apply w127
 all_goals (first | ((repeat intro _) <;> (try simp only [v0,v1,v2,v3,v4,v5,v6,v7,v8,v9,inI,fits,Go.Sh.small] at *) <;> first | (exact rfl) | omega | exact vz | (simp_all; done) | (simp_all; omega)) | skip)
abbrev z126_1 (g:Hs) (c:Int) (S:Nat->Int) (B:Nat->Int) (P:Nat->Bool):LoopAnn:=Hint.ann (h126 g c S B P) [(1,AV.fn 0),(11,AV.sl 4 (Hs.things g).length fun (i:Nat)=>cThg (thg g i)),(12,iv (↑((Hs.things g).length):Int))] [] 10064
abbrev q126_1 (g:Hs) (c:Int) (S:Nat->Int) (B:Nat->Int) (P:Nat->Bool) (C:Env->Prop):Prop := ∀ (E0:Env),fnokOf Try.prog 0 (fun (i:{ i:Nat // i < (Hs.things g).length })=>[iv (↑(Subtype.val i):Int),vThg (thg g (Subtype.val i))]) (fun (i:{ i:Nat // i < (Hs.things g).length })=>bv (P (Subtype.val i))) E0->(Hs.things g).length<=8->C E0
abbrev q126_2 (g:Hs) (c:Int) (S:Nat->Int) (B:Nat->Int) (P:Nat->Bool) (C:Env->Nat->Prop):Prop:=q126_1 g c S B P fun E0 => ∀ (x0:Nat),x0<=(Hs.things g).length->decide ((x0:Int) < (↑((Hs.things g).length):Int))=true->C E0 x0
theorem w126 (g:Hs) (c:Int) (S:Nat->Int) (B:Nat->Int) (P:Nat->Bool)
 (o0:q126_1 g c S B P fun E0=>0=(↑0:Int))
 (o1:q126_1 g c S B P fun E0=>(thTo P 0).length=0)
 (o2:q126_1 g c S B P fun E0=>0<=(Hs.things g).length)
 (o3:q126_2 g c S B P fun E0 x0=>0<=(x0:Int))
 (o4:q126_2 g c S B P fun E0 x0=>(x0:Int) < (↑((Hs.things g).length):Int))
 (o5:q126_2 g c S B P fun E0 x0 => ∀ (i2:Value),E0.4 0 i2->FnOK Try.prog E0 i2 [iv (x0:Int),vThg (thg g x0)] (bv (P x0)))
 (o6:q126_2 g c S B P fun E0 x0=>P x0=true->(thTo P x0).length + 1<=65536)
 (o7:q126_2 g c S B P fun E0 x0=>P x0=true->inI ((x0:Int) + 1))
 (o8:q126_2 g c S B P fun E0 x0=>P x0=true->(x0:Int) + 1=(↑(x0 + 1):Int))
 (o9:q126_2 g c S B P fun E0 x0=>P x0=true->(thTo P x0).length + 1=(thTo P (x0 + 1)).length)
 (o10:q126_2 g c S B P fun E0 x0=>P x0=true -> ∀ (i5:Nat),i5 < (thTo P x0).length + 1->catF (thTo P x0).length (fun (k:Nat)=>[iv ((thTo P x0).getD k 0)]) (fun (j:Nat)=>List.getD [[iv (x0:Int)]] j (TI.za ti3)) i5 = [iv ((thTo P (x0 + 1)).getD i5 0)])
 (o11:q126_2 g c S B P fun E0 x0=>P x0=true->x0 + 1<=(Hs.things g).length)
 (o12:q126_2 g c S B P fun E0 x0=>P x0=true->(Hs.things g).length - (x0 + 1) < (Hs.things g).length - x0)
 (o13:q126_2 g c S B P fun E0 x0=>P x0=false->inI ((x0:Int) + 1))
 (o14:q126_2 g c S B P fun E0 x0=>P x0=false->(x0:Int) + 1=(↑(x0 + 1):Int))
 (o15:q126_2 g c S B P fun E0 x0=>P x0=false->(thTo P x0).length=(thTo P (x0 + 1)).length)
 (o16:q126_2 g c S B P fun E0 x0=>P x0=false -> ∀ (i7:Nat),i7 < (thTo P x0).length -> [iv ((thTo P x0).getD i7 0)] = [iv ((thTo P (x0 + 1)).getD i7 0)])
 (o17:q126_2 g c S B P fun E0 x0=>P x0=false->x0 + 1<=(Hs.things g).length)
 (o18:q126_2 g c S B P fun E0 x0=>P x0=false->(Hs.things g).length - (x0 + 1) < (Hs.things g).length - x0)
 (o19:q126_1 g c S B P fun E0 => ∀ (x0:Nat),x0<=(Hs.things g).length->decide ((x0:Int) < (↑((Hs.things g).length):Int))=false->(thTo P x0).length=(thTo P (Hs.things g).length).length)
 (o20:q126_1 g c S B P fun E0 => ∀ (x0:Nat),x0<=(Hs.things g).length->decide ((x0:Int) < (↑((Hs.things g).length):Int))=false -> ∀ (i9:Nat),i9 < (thTo P (Hs.things g).length).length -> [iv ((thTo P x0).getD i9 0)] = [iv ((thTo P (Hs.things g).length).getD i9 0)]) :
  Triple Try.prog 126 (s126 g c S B P):=by
 refine triple_of Try.func126 rfl Try.call126 T0_ok _ rfl rfl rfl rfl (Nat.le_of_ble_eq_true (by kernel_rfl)) fnokOf_congr ?_
 intro hp C hC hfn hE
 obtain ⟨P,w0,E0,av,hA⟩:=C
 subst hC
 refine swp_seq ?_
 refine sQ (kt:=[0,1,4]) (kh:=[]) (q:=True/\True) (st':=ASt.mk [(0,.rp (cHo g c S B)),(1,.fn 0),(4,nilv)] [] 8) ⟨tv,tv⟩ ?_
 refine swp_seq (swp_seq ?_)
 refine sQ (kt:=[1,4,11,12,13]) (kh:=[]) (q:=tn 7) (st':=ASt.mk [(1,.fn 0),(4,nilv),(11,.sl 4 (Hs.things g).length fun (i:Nat)=>cThg (thg g i)),(12,iv (↑((Hs.things g).length):Int)),(13,iv 0)] [] 64) (tp 7) ?_
 refine swp_block ?_
 refine swp_loopA (z126_1 g c S B P) (eQ hE [] [(5000,.nil)] [1,11,12] [] (((zT (AV.fn 0))/\(zT (AV.sl 4 (Hs.things g).length fun (i:Nat)=>cThg (thg g i)))/\(zT (iv (↑((Hs.things g).length):Int)))/\(zN (iv 0) (iv (↑0:Int)))/\zE (some Src.nil)/\True)/\((thTo P 0).length=0/\True)/\T2) ⟨⟨⟨rfl,rfl⟩,⟨rfl,rfl⟩,⟨rfl,rfl⟩,⟨(congrArg iv (o0 E0 hfn hp)),rfl⟩,rfl,tv⟩,⟨(o1 E0 hfn hp),tv⟩,rfl,rfl⟩) (o2 E0 hfn hp) (fun (x0:Nat) hx0 => ?_)
 refine swp_seq ?_
 refine sQ (kt:=[1,11,12,13,4,14]) (kh:=[5000]) (q:=True/\True) (st':=ASt.mk [(1,.fn 0),(11,.sl 4 (Hs.things g).length fun (i:Nat)=>cThg (thg g i)),(12,iv (↑((Hs.things g).length):Int)),(13,iv (x0:Int)),(4,.vec 5000),(14,bv (decide ((x0:Int) < (↑((Hs.things g).length):Int))))] [(5000,.vec 3 1 (thTo P x0).length fun (k:Nat)=>[iv ((thTo P x0).getD k 0)])] 10072) ⟨tv,tv⟩ ?_
 refine swp_seq ?_
 refine swp_cond (decide ((x0:Int) < (↑((Hs.things g).length):Int))) (by kernel_rfl) (fun h1 => ?_) (fun h1 => ?_)
 ·refine swp_skip (swp_seq (swp_block (swp_seq ?_)))
  refine sQ (kt:=[1,11,12,13,4,6,5]) (kh:=[5000,10096]) (q:=True/\(0<=(x0:Int)/\(x0:Int) < (↑((Hs.things g).length):Int))/\tn 4) (st':=ASt.mk [(1,.fn 0),(11,.sl 4 (Hs.things g).length fun (i:Nat)=>cThg (thg g i)),(12,iv (↑((Hs.things g).length):Int)),(13,iv (x0:Int)),(4,.vec 5000),(6,.ptr 10096 []),(5,iv (x0:Int))] [(5000,.vec 3 1 (thTo P x0).length fun (k:Nat)=>[iv ((thTo P x0).getD k 0)]),(10096,.cells 88 (cThg (thg g x0)))] 10120) ⟨tv,⟨(o3 E0 hfn hp x0 hx0 h1),(o4 E0 hfn hp x0 hx0 h1)⟩,tp 4⟩ ?_
  refine swp_seq ?_
  refine sC (cs:=[(3,CallSpec.eq (c126 g c S B P x0) [true,true])]) (kt:=[1,11,12,13,4,5,21]) (kh:=[5000]) (q:=True/\True/\True/\((zE (iv (x0:Int))/\(zE (iv (Thg.off (thg g x0)))/\zE (iv (Thg.at_ (thg g x0)))/\zE (iv (Thg.cost (thg g x0)))/\zE (iv (Thg.prints (thg g x0)))/\True)/\True) /\ ∀ (i2:Value),E0.4 0 i2->FnOK Try.prog E0 i2 [iv (x0:Int),vThg (thg g x0)] (bv (P x0)))/\True) (st':=ASt.mk [(1,.fn 0),(11,.sl 4 (Hs.things g).length fun (i:Nat)=>cThg (thg g i)),(12,iv (↑((Hs.things g).length):Int)),(13,iv (x0:Int)),(4,.vec 5000),(5,iv (x0:Int)),(21,bv (P x0))] [(5000,.vec 3 1 (thTo P x0).length fun (k:Nat)=>[iv ((thTo P x0).getD k 0)])] 10152) ⟨tv,tv,tv,⟨⟨rfl,⟨rfl,rfl,rfl,rfl,tv⟩,tv⟩,(fun i2=>(fun h3=>(o5 E0 hfn hp x0 hx0 h1 i2 h3)))⟩,tv⟩ ?_
  refine swp_cond (P x0) (by kernel_rfl) (fun h4 => ?_) (fun h4 => ?_)
  ·refine sQ (kt:=[1,11,12,13,4]) (kh:=[10176]) (q:=True/\True/\True/\(thTo P x0).length + 1<=65536/\True/\True) (st':=ASt.mk [(1,.fn 0),(11,.sl 4 (Hs.things g).length fun (i:Nat)=>cThg (thg g i)),(12,iv (↑((Hs.things g).length):Int)),(13,iv (x0:Int)),(4,.vec 10176)] [(10176,.vec 3 1 ((thTo P x0).length + 1) (catF (thTo P x0).length (fun (k:Nat)=>[iv ((thTo P x0).getD k 0)]) fun (j:Nat)=>List.getD [[iv (x0:Int)]] j (TI.za ti3)))] 10192) ⟨tv,tv,tv,(o6 E0 hfn hp x0 hx0 h1 h4),tv,tv⟩ ?_
   refine sQ (kt:=[1,11,12,13,4]) (kh:=[10176]) (q:=inI ((x0:Int) + 1)/\True/\True) (st':=ASt.mk [(1,.fn 0),(11,.sl 4 (Hs.things g).length fun (i:Nat)=>cThg (thg g i)),(12,iv (↑((Hs.things g).length):Int)),(13,iv ((x0:Int) + 1)),(4,.vec 10176)] [(10176,.vec 3 1 ((thTo P x0).length + 1) (catF (thTo P x0).length (fun (k:Nat)=>[iv ((thTo P x0).getD k 0)]) fun (j:Nat)=>List.getD [[iv (x0:Int)]] j (TI.za ti3)))] 10208) ⟨(o7 E0 hfn hp x0 hx0 h1 h4),tv,tv⟩ ?_
   exact loop_next (z126_1 g c S B P) x0 (eQ hE [] [(5000,.same 10176)] [1,11,12] [] (((zT (AV.fn 0))/\(zT (AV.sl 4 (Hs.things g).length fun (i:Nat)=>cThg (thg g i)))/\(zT (iv (↑((Hs.things g).length):Int)))/\(zN (iv ((x0:Int) + 1)) (iv (↑(x0 + 1):Int)))/\zE (some (Src.same 10176))/\True)/\((3=3/\1=1/\(thTo P x0).length + 1=(thTo P (x0 + 1)).length /\ ∀ (i5:Nat),i5 < (thTo P x0).length + 1->catF (thTo P x0).length (fun (k:Nat)=>[iv ((thTo P x0).getD k 0)]) (fun (j:Nat)=>List.getD [[iv (x0:Int)]] j (TI.za ti3)) i5 = [iv ((thTo P (x0 + 1)).getD i5 0)])/\True)/\T2) ⟨⟨⟨rfl,rfl⟩,⟨rfl,rfl⟩,⟨rfl,rfl⟩,⟨(congrArg iv (o8 E0 hfn hp x0 hx0 h1 h4)),rfl⟩,rfl,tv⟩,⟨⟨rfl,rfl,(o9 E0 hfn hp x0 hx0 h1 h4),(fun i5=>(fun h6=>(o10 E0 hfn hp x0 hx0 h1 h4 i5 h6)))⟩,tv⟩,rfl,rfl⟩) (o11 E0 hfn hp x0 hx0 h1 h4) (o12 E0 hfn hp x0 hx0 h1 h4)
  ·refine swp_skip ?_
   refine sQ (kt:=[1,11,12,13,4]) (kh:=[5000]) (q:=inI ((x0:Int) + 1)/\True/\True) (st':=ASt.mk [(1,.fn 0),(11,.sl 4 (Hs.things g).length fun (i:Nat)=>cThg (thg g i)),(12,iv (↑((Hs.things g).length):Int)),(13,iv ((x0:Int) + 1)),(4,.vec 5000)] [(5000,.vec 3 1 (thTo P x0).length fun (k:Nat)=>[iv ((thTo P x0).getD k 0)])] 10168) ⟨(o13 E0 hfn hp x0 hx0 h1 h4),tv,tv⟩ ?_
   exact loop_next (z126_1 g c S B P) x0 (eQ hE [] [(5000,.same 5000)] [1,11,12] [] (((zT (AV.fn 0))/\(zT (AV.sl 4 (Hs.things g).length fun (i:Nat)=>cThg (thg g i)))/\(zT (iv (↑((Hs.things g).length):Int)))/\(zN (iv ((x0:Int) + 1)) (iv (↑(x0 + 1):Int)))/\zE (some (Src.same 5000))/\True)/\((3=3/\1=1/\(thTo P x0).length=(thTo P (x0 + 1)).length /\ ∀ (i7:Nat),i7 < (thTo P x0).length -> [iv ((thTo P x0).getD i7 0)] = [iv ((thTo P (x0 + 1)).getD i7 0)])/\True)/\T2) ⟨⟨⟨rfl,rfl⟩,⟨rfl,rfl⟩,⟨rfl,rfl⟩,⟨(congrArg iv (o14 E0 hfn hp x0 hx0 h1 h4)),rfl⟩,rfl,tv⟩,⟨⟨rfl,rfl,(o15 E0 hfn hp x0 hx0 h1 h4),(fun i7=>(fun h8=>(o16 E0 hfn hp x0 hx0 h1 h4 i7 h8)))⟩,tv⟩,rfl,rfl⟩) (o17 E0 hfn hp x0 hx0 h1 h4) (o18 E0 hfn hp x0 hx0 h1 h4)
 ·refine swp_exit (swp_seq ?_)
  refine sQ (kt:=[4]) (kh:=[5000]) (q:=tn 2) (st':=ASt.mk [(4,.vec 5000)] [(5000,.vec 3 1 (thTo P x0).length fun (k:Nat)=>[iv ((thTo P x0).getD k 0)])] 10088) (tp 2) ?_
  refine swp_ret ?_
  exact rQ [5000] ((True/\True)/\(1=1/\(thTo P x0).length=(thTo P (Hs.things g).length).length /\ ∀ (i9:Nat),i9 < (thTo P (Hs.things g).length).length -> [iv ((thTo P x0).getD i9 0)] = [iv ((thTo P (Hs.things g).length).getD i9 0)])/\T3) ⟨⟨tv,tv⟩,⟨rfl,(o19 E0 hfn hp x0 hx0 h1),(fun i9=>(fun h10=>(o20 E0 hfn hp x0 hx0 h1 i9 h10)))⟩,rfl,rfl,rfl⟩
theorem thTo_len (P:Nat->Bool):∀ n,(thTo P n).length<=n:=by
 intro n
 induction n with
 | zero=>exact Nat.le_refl _
 | succ n ih =>
  rw [thTo]
  split
  ·rw [List.length_append,List.length_singleton]; omega
  ·omega
theorem thTo_t {P:Nat->Bool} {n:Nat} (h:P n=true):thTo P (n + 1)=thTo P n ++ [(n:Int)]:=by rw [thTo,if_pos h]
theorem thTo_f {P:Nat->Bool} {n:Nat} (h:P n=false):thTo P (n + 1)=thTo P n:=by rw [thTo,h]; rfl
theorem mem_thTo {P:Nat->Bool} {v:Int}:∀ {n},v ∈ thTo P n -> ∃ i:Nat,v=i/\i < n/\P i=true:=by
 intro n
 induction n with
 | zero=>intro h; cases h
 | succ n ih =>
  intro h
  cases hp:P n with
  | true =>
   rw [thTo_t hp,List.mem_append,List.mem_singleton] at h
   rcases h with h | h
   ·obtain ⟨i,a,b,c⟩:=ih h; exact ⟨i,a,by omega,c⟩
   ·exact ⟨n,h,by omega,hp⟩
  | false =>
   rw [thTo_f hp] at h
   obtain ⟨i,a,b,c⟩:=ih h; exact ⟨i,a,by omega,c⟩
theorem t126 (g:Hs) (c:Int) (S B:Nat->Int) (P:Nat->Bool):Triple Try.prog 126 (s126 g c S B P):=by
 apply w126
 all_goals (first | ((repeat intro _) <;> (try simp only [v0,v1,v2,v3,v4,v5,v6,v7,v8,v9,inI,fits,Go.Sh.small] at *) <;> first | (exact rfl) | omega | exact vz | (simp_all; done) | (simp_all; omega)) | skip)
 all_goals (intro E0 hfn hp x hx hl; simp only [decide_eq_true_eq,decide_eq_false_iff_not] at hl)
 case o5=>intro u hu; exact hfn u hu ⟨x,by omega⟩
 case o19 | o20 =>
  have e:x=g.things.length:=by omega
  subst e
  first | rfl | (intro i hi; rfl)
 all_goals (intro hh)
 case o6=>have:=thTo_len P x; omega
 case o9=>rw [thTo_t hh,List.length_append]; rfl
 case o10=>intro i hi; rw [thTo_t hh]; exact catF_one _ _ 0 (fun z=>[iv z]) rfl (fun _ _=>rfl) rfl hi
 case o15=>rw [thTo_f hh]
 case o16=>intro i hi; rw [thTo_f hh]
abbrev z100_1 (g:Hs) (c:Int):LoopAnn:=Hint.ann (h100 g c) [(4,AV.ptr 8 []),(7,AV.rp [AV.rp (cHo g c (tS g c (Hs.things g).length) (tB g c (Hs.things g).length))])] [(8,OB.cells 37 [iv 0,iv 0])] 10152
abbrev q100_1 (g:Hs) (c:Int) (C:Prop):Prop:=okH g=true/\within c 0 2=true->C
abbrev q100_2 (g:Hs) (c:Int) (C:Nat->Prop):Prop:=q100_1 g c (∀ (x3:Nat),x3<=100->decide ((x3:Int) < 100)=true->C x3)
abbrev q100_3 (g:Hs) (c:Int) (C:Nat->Prop):Prop:=q100_2 g c fun x3=>mixedB (tS g c (Hs.things g).length) (thTo (atP g (x3:Int)) (Hs.things g).length) (x3:Int)=true->C x3
abbrev q100_4 (g:Hs) (c:Int) (C:Nat->Prop):Prop:=q100_2 g c fun x3=>mixedB (tS g c (Hs.things g).length) (thTo (atP g (x3:Int)) (Hs.things g).length) (x3:Int)=false->C x3
abbrev q100_5 (g:Hs) (c:Int) (C:Nat->Prop):Prop:=q100_1 g c (∀ (x3:Nat),x3<=100->decide ((x3:Int) < 100)=false->decide ((timeTo g c x3).lo=100)=true->C x3)
abbrev q100_6 (g:Hs) (c:Int) (C:Nat->Prop):Prop:=q100_1 g c (∀ (x3:Nat),x3<=100->decide ((x3:Int) < 100)=false->decide ((timeTo g c x3).lo=100)=false->C x3)
theorem w100 (g:Hs) (c:Int)
 (o0:q100_1 g c (0=(↑0:Int)))
 (o1:q100_1 g c (100=(timeTo g c 0).lo))
 (o2:q100_1 g c (0=(timeTo g c 0).hi))
 (o3:q100_1 g c (0<=100))
 (o4:q100_2 g c fun x3=>(Hs.things g).length<=8)
 (o5:∀ (E0:Env),okH g=true/\within c 0 2=true -> ∀ (x3:Nat),x3<=100->decide ((x3:Int) < 100)=true -> ∀ (i5:Env) (i6:List Value),Env.le E0 i5->i6.length=2->(∀ (k:Nat),Rel i5 true (List.getD [AV.rp (cHo g c (tS g c (Hs.things g).length) (tB g c (Hs.things g).length)),AV.clo 127 [AV.rp [AV.rp (cHo g c (tS g c (Hs.things g).length) (tB g c (Hs.things g).length))],AV.rp [iv (x3:Int)]]] k AV.any) (i6.getD k undef))->fnokOf Try.prog 0 (fun (i:{ i:Nat // i < (Hs.things g).length })=>[iv (↑(Subtype.val i):Int),vThg (thg g (Subtype.val i))]) (fun (i:{ i:Nat // i < (Hs.things g).length })=>bv (atP g (x3:Int) (Subtype.val i))) (Env.mk i5.1 i5.2 i5.3 fun (k:Nat) (u:Value) => ∃ (i:Nat),[AV.rp (cHo g c (tS g c (Hs.things g).length) (tB g c (Hs.things g).length)),AV.fn 0][i]? = some (AV.fn k)/\i6[i]? = some u))
 (o6:q100_2 g c fun x3=>(thTo (atP g (x3:Int)) (Hs.things g).length).length<=1125899906842624)
 (o7:q100_2 g c fun x3 => ∀ (i10:Int),i10 ∈ thTo (atP g (x3:Int)) (Hs.things g).length->0<=i10)
 (o8:q100_2 g c fun x3 => ∀ (i10:Int),i10 ∈ thTo (atP g (x3:Int)) (Hs.things g).length->i10 < 8)
 (o9:q100_3 g c fun x3=>inI ((x3:Int) + 1))
 (o10:q100_3 g c fun x3=>(x3:Int) + 1=(↑(x3 + 1):Int))
 (o11:q100_3 g c fun x3=>min (timeTo g c x3).lo (x3:Int)=(timeTo g c (x3 + 1)).lo)
 (o12:q100_3 g c fun x3=>(x3:Int)=(timeTo g c (x3 + 1)).hi)
 (o13:q100_3 g c fun x3=>x3 + 1<=100)
 (o14:q100_3 g c fun x3=>100 - (x3 + 1) < 100 - x3)
 (o15:q100_4 g c fun x3=>inI ((x3:Int) + 1))
 (o16:q100_4 g c fun x3=>(x3:Int) + 1=(↑(x3 + 1):Int))
 (o17:q100_4 g c fun x3=>(timeTo g c x3).lo=(timeTo g c (x3 + 1)).lo)
 (o18:q100_4 g c fun x3=>(timeTo g c x3).hi=(timeTo g c (x3 + 1)).hi)
 (o19:q100_4 g c fun x3=>x3 + 1<=100)
 (o20:q100_4 g c fun x3=>100 - (x3 + 1) < 100 - x3)
 (o21:q100_5 g c fun x3=>0=(timeV g c).lo)
 (o22:q100_5 g c fun x3=>0=(timeV g c).hi)
 (o23:q100_5 g c fun x3=>3=timeE g c)
 (o24:q100_6 g c fun x3=>(timeTo g c x3).lo=(timeV g c).lo)
 (o25:q100_6 g c fun x3=>(timeTo g c x3).hi=(timeV g c).hi)
 (o26:q100_6 g c fun x3=>0=timeE g c) :
  Triple Try.prog 100 (s100 g c):=by
 refine triple_of Try.func100 rfl Try.call100 T0_ok _ rfl rfl rfl rfl (Nat.le_of_ble_eq_true (by kernel_rfl)) (fun _ _ _ _ h=>h) ?_
 intro hp C hC _ hE
 obtain ⟨P,w0,E0,av,hA⟩:=C
 subst hC
 refine swp_seq ?_
 refine sQ (kt:=[1,2,4]) (kh:=[0,8]) (q:=tn 3) (st':=ASt.mk [(1,iv c),(2,.ptr 0 []),(4,.ptr 8 [])] [(0,.cells 80 (cHs g)),(8,.cells 37 [iv 0,iv 0])] 24) (tp 3) ?_
 refine swp_seq (swp_seq ?_)
 refine sC (cs:=[(2,CallSpec.eq (s103 c) [true]),(3,CallSpec.eq (s101 g (within c 0 2)) [true,true])]) (kt:=[1,2,4,6]) (kh:=[0,8]) (q:=True/\True/\((iv c=iv c/\True)/\Triple Try.prog 103 (s103 c)/\True/\True /\ ∀ (i0:Env),True)/\((zE (AV.agg (cHs g))/\zE (bv (within c 0 2))/\True)/\Triple Try.prog 101 (s101 g (within c 0 2))/\(okH g=true/\within c 0 2=true)/\True /\ ∀ (i1:Env),True)/\True/\True) (st':=ASt.mk [(1,iv c),(2,.ptr 0 []),(4,.ptr 8 []),(6,iv 0)] [(0,.cells 80 (cHs g)),(8,.cells 37 [iv 0,iv 0])] 64) ⟨tv,tv,⟨⟨rfl,tv⟩,(t103 (c)),tv,tv,(fun i0=>tv)⟩,⟨⟨rfl,rfl,tv⟩,(t101 (g) (within c 0 2)),⟨hp.1,hp.2⟩,tv,(fun i1=>tv)⟩,tv,tv⟩ ?_
 refine swp_seq ?_
 refine sQ (kt:=[1,2,4,6,16]) (kh:=[0,8]) (q:=tn 2) (st':=ASt.mk [(1,iv c),(2,.ptr 0 []),(4,.ptr 8 []),(6,iv 0),(16,bv false)] [(0,.cells 80 (cHs g)),(8,.cells 37 [iv 0,iv 0])] 80) (tp 2) ?_
 refine swp_cond false (by kernel_rfl) (fun h=>by cases h) (fun _ => ?_)
 refine swp_skip (swp_seq ?_)
 refine sC (cs:=[(2,CallSpec.eq (s104 g c) [true,true])]) (kt:=[4,7]) (kh:=[8,104]) (q:=True/\True/\((zE (AV.agg (cHs g))/\iv c=iv c/\True)/\Triple Try.prog 104 (s104 g c)/\okH g=true/\True /\ ∀ (i2:Env),True)/\tn 2) (st':=ASt.mk [(4,.ptr 8 []),(7,.ptr 104 [])] [(8,.cells 37 [iv 0,iv 0]),(104,.cells 135 [.rp (cHo g c (tS g c (Hs.things g).length) (tB g c (Hs.things g).length))])] 120) ⟨tv,tv,⟨⟨rfl,rfl,tv⟩,(t104 (g) (c)),hp.1,tv,(fun i2=>tv)⟩,tp 2⟩ ?_
 refine swp_seq ?_
 refine swp_ent (ent_fz 104 135 ([AV.rp (cHo g c (tS g c (Hs.things g).length) (tB g c (Hs.things g).length))]) (ASt.mk [(4,AV.ptr 8 []),(7,AV.rp [AV.rp (cHo g c (tS g c (Hs.things g).length) (tB g c (Hs.things g).length))])] [(8,OB.cells 37 [iv 0,iv 0])] 120) (by kernel_rfl) (by kernel_rfl) (by kernel_rfl)) ?_
 refine sQ (kt:=[4,7,8]) (kh:=[8,128]) (q:=tn 3) (st':=ASt.mk [(4,.ptr 8 []),(7,.rp [.rp (cHo g c (tS g c (Hs.things g).length) (tB g c (Hs.things g).length))]),(8,.ptr 128 [])] [(8,.cells 37 [iv 0,iv 0]),(128,.cells 37 [iv 100,iv 0])] 144) (tp 3) ?_
 refine swp_seq (swp_seq ?_)
 refine sQ (kt:=[4,7,8,23]) (kh:=[8,128]) (q:=True/\True) (st':=ASt.mk [(4,.ptr 8 []),(7,.rp [.rp (cHo g c (tS g c (Hs.things g).length) (tB g c (Hs.things g).length))]),(8,.ptr 128 []),(23,iv 0)] [(8,.cells 37 [iv 0,iv 0]),(128,.cells 37 [iv 100,iv 0])] 152) ⟨tv,tv⟩ ?_
 refine swp_block ?_
 refine swp_loopA (z100_1 g c) (eQ hE [] [(8,.same 8),(5000,.same 128)] [7] [8] (((zP 8)/\(zT (AV.rp [AV.rp (cHo g c (tS g c (Hs.things g).length) (tB g c (Hs.things g).length))]))/\(zN (iv 0) (iv (↑0:Int)))/\(zP 128)/\True)/\((zT (OB.cells 37 [iv 0,iv 0]))/\(37=37/\((zN (iv 100) (iv (timeTo g c 0).lo))/\(zN (iv 0) (iv (timeTo g c 0).hi))/\True)/\true=true)/\True)/\T2) ⟨⟨⟨rfl,rfl⟩,⟨rfl,rfl⟩,⟨(congrArg iv (o0 hp)),rfl⟩,⟨rfl,rfl⟩,tv⟩,⟨⟨rfl,rfl⟩,⟨rfl,⟨⟨(congrArg iv (o1 hp)),rfl⟩,⟨(congrArg iv (o2 hp)),rfl⟩,tv⟩,rfl⟩,tv⟩,rfl,rfl⟩) (o3 hp) (fun (x3:Nat) hx3 => ?_)
 refine swp_seq ?_
 refine sQ (kt:=[4,7,23,8,24]) (kh:=[8,5000]) (q:=True/\True) (st':=ASt.mk [(4,.ptr 8 []),(7,.rp [.rp (cHo g c (tS g c (Hs.things g).length) (tB g c (Hs.things g).length))]),(23,iv (x3:Int)),(8,.ptr 5000 []),(24,bv (decide ((x3:Int) < 100)))] [(8,.cells 37 [iv 0,iv 0]),(5000,.cells 37 (cSpan (timeTo g c x3)))] 10160) ⟨tv,tv⟩ ?_
 refine swp_seq ?_
 refine swp_cond (decide ((x3:Int) < 100)) (by kernel_rfl) (fun h4 => ?_) (fun h4 => ?_)
 ·refine swp_skip (swp_seq (swp_block (swp_seq ?_)))
  refine sQ (kt:=[4,7,23,8,9]) (kh:=[8,5000,10168]) (q:=tn 3) (st':=ASt.mk [(4,.ptr 8 []),(7,.rp [.rp (cHo g c (tS g c (Hs.things g).length) (tB g c (Hs.things g).length))]),(23,iv (x3:Int)),(8,.ptr 5000 []),(9,.ptr 10168 [])] [(8,.cells 37 [iv 0,iv 0]),(5000,.cells 37 (cSpan (timeTo g c x3))),(10168,.cells 3 [iv (x3:Int)])] 10184) (tp 3) ?_
  refine swp_seq ?_
  refine swp_ent (ent_fz 10168 3 ([iv (x3:Int)]) (ASt.mk [(4,AV.ptr 8 []),(7,AV.rp [AV.rp (cHo g c (tS g c (Hs.things g).length) (tB g c (Hs.things g).length))]),(23,iv (x3:Int)),(8,AV.ptr 5000 []),(9,AV.rp [iv (x3:Int)])] [(8,OB.cells 37 [iv 0,iv 0]),(5000,OB.cells 37 (cSpan (timeTo g c x3)))] 10184) (by kernel_rfl) (by kernel_rfl) (by kernel_rfl)) ?_
  refine sC (cs:=[(2,CallSpec.eq (c100a g c x3) [true,false])]) (kt:=[4,7,23,8,9,10]) (kh:=[8,5000]) (q:=True/\True/\((zE (AV.rp (cHo g c (tS g c (Hs.things g).length) (tB g c (Hs.things g).length)))/\True/\True)/\Triple Try.prog 126 (c100a g c x3)/\(Hs.things g).length<=8/\True /\ ∀ (i5:Env) (i6:List Value),Env.le E0 i5->i6.length=2->(∀ (k:Nat),Rel i5 true (List.getD [AV.rp (cHo g c (tS g c (Hs.things g).length) (tB g c (Hs.things g).length)),AV.clo 127 [AV.rp [AV.rp (cHo g c (tS g c (Hs.things g).length) (tB g c (Hs.things g).length))],AV.rp [iv (x3:Int)]]] k AV.any) (i6.getD k undef))->fnokOf Try.prog 0 (fun (i:{ i:Nat // i < (Hs.things g).length })=>[iv (↑(Subtype.val i):Int),vThg (thg g (Subtype.val i))]) (fun (i:{ i:Nat // i < (Hs.things g).length })=>bv (atP g (x3:Int) (Subtype.val i))) (Env.mk i5.1 i5.2 i5.3 fun (k:Nat) (u:Value) => ∃ (i:Nat),[AV.rp (cHo g c (tS g c (Hs.things g).length) (tB g c (Hs.things g).length)),AV.fn 0][i]? = some (AV.fn k)/\i6[i]? = some u))/\True/\True) (st':=ASt.mk [(4,.ptr 8 []),(7,.rp [.rp (cHo g c (tS g c (Hs.things g).length) (tB g c (Hs.things g).length))]),(23,iv (x3:Int)),(8,.ptr 5000 []),(9,.rp [iv (x3:Int)]),(10,aInts (thTo (atP g (x3:Int)) (Hs.things g).length))] [(8,.cells 37 [iv 0,iv 0]),(5000,.cells 37 (cSpan (timeTo g c x3)))] 10216) ⟨tv,tv,⟨⟨rfl,tv,tv⟩,(t126 _ _ _ _ _),(o4 hp x3 hx3 h4),tv,(fun i5=>(fun i6=>(fun h7=>(fun h8=>(fun h9=>(o5 E0 hp x3 hx3 h4 i5 i6 h7 h8 h9))))))⟩,tv,tv⟩ ?_
  refine swp_seq ?_
  refine sC (cs:=[(3,CallSpec.eq (s107 g c (tS g c (Hs.things g).length) (tB g c (Hs.things g).length) (thTo (atP g (x3:Int)) (Hs.things g).length) (x3:Int)) [true,true,true])]) (kt:=[4,7,23,8,9,32]) (kh:=[8,5000]) (q:=True/\True/\True/\((zE (AV.rp (cHo g c (tS g c (Hs.things g).length) (tB g c (Hs.things g).length)))/\zE (aInts (thTo (atP g (x3:Int)) (Hs.things g).length))/\zE (iv (x3:Int))/\True)/\Triple Try.prog 107 (s107 g c (tS g c (Hs.things g).length) (tB g c (Hs.things g).length) (thTo (atP g (x3:Int)) (Hs.things g).length) (x3:Int))/\((thTo (atP g (x3:Int)) (Hs.things g).length).length<=1125899906842624 /\ ∀ (i10:Int),i10 ∈ thTo (atP g (x3:Int)) (Hs.things g).length->0<=i10/\i10 < 8)/\True /\ ∀ (i12:Env),True)/\True) (st':=ASt.mk [(4,.ptr 8 []),(7,.rp [.rp (cHo g c (tS g c (Hs.things g).length) (tB g c (Hs.things g).length))]),(23,iv (x3:Int)),(8,.ptr 5000 []),(9,.rp [iv (x3:Int)]),(32,bv (mixedB (tS g c (Hs.things g).length) (thTo (atP g (x3:Int)) (Hs.things g).length) (x3:Int)))] [(8,.cells 37 [iv 0,iv 0]),(5000,.cells 37 (cSpan (timeTo g c x3)))] 10248) ⟨tv,tv,tv,⟨⟨rfl,rfl,rfl,tv⟩,(t107 (g) (c) (tS g c (Hs.things g).length) (tB g c (Hs.things g).length) (thTo (atP g (x3:Int)) (Hs.things g).length) ((x3:Int))),⟨(o6 hp x3 hx3 h4),(fun i10=>(fun h11=>⟨(o7 hp x3 hx3 h4 i10 h11),(o8 hp x3 hx3 h4 i10 h11)⟩))⟩,tv,(fun i12=>tv)⟩,tv⟩ ?_
  refine swp_cond (mixedB (tS g c (Hs.things g).length) (thTo (atP g (x3:Int)) (Hs.things g).length) (x3:Int)) (by kernel_rfl) (fun h13 => ?_) (fun h13 => ?_)
  ·refine sQ (kt:=[4,7,23,8]) (kh:=[8,5000]) (q:=tn 7) (st':=ASt.mk [(4,.ptr 8 []),(7,.rp [.rp (cHo g c (tS g c (Hs.things g).length) (tB g c (Hs.things g).length))]),(23,iv (x3:Int)),(8,.ptr 5000 [])] [(8,.cells 37 [iv 0,iv 0]),(5000,.cells 37 [iv (min (timeTo g c x3).lo (x3:Int)),iv (x3:Int)])] 10304) (tp 7) ?_
   refine sQ (kt:=[4,7,23,8]) (kh:=[8,5000]) (q:=inI ((x3:Int) + 1)/\True/\True) (st':=ASt.mk [(4,.ptr 8 []),(7,.rp [.rp (cHo g c (tS g c (Hs.things g).length) (tB g c (Hs.things g).length))]),(23,iv ((x3:Int) + 1)),(8,.ptr 5000 [])] [(8,.cells 37 [iv 0,iv 0]),(5000,.cells 37 [iv (min (timeTo g c x3).lo (x3:Int)),iv (x3:Int)])] 10320) ⟨(o9 hp x3 hx3 h4 h13),tv,tv⟩ ?_
   exact loop_next (z100_1 g c) x3 (eQ hE [] [(8,.same 8),(5000,.same 5000)] [7] [8] (((zP 8)/\(zT (AV.rp [AV.rp (cHo g c (tS g c (Hs.things g).length) (tB g c (Hs.things g).length))]))/\(zN (iv ((x3:Int) + 1)) (iv (↑(x3 + 1):Int)))/\(zP 5000)/\True)/\((zT (OB.cells 37 [iv 0,iv 0]))/\(37=37/\((zN (iv (min (timeTo g c x3).lo (x3:Int))) (iv (timeTo g c (x3 + 1)).lo))/\(zN (iv (x3:Int)) (iv (timeTo g c (x3 + 1)).hi))/\True)/\true=true)/\True)/\T2) ⟨⟨⟨rfl,rfl⟩,⟨rfl,rfl⟩,⟨(congrArg iv (o10 hp x3 hx3 h4 h13)),rfl⟩,⟨rfl,rfl⟩,tv⟩,⟨⟨rfl,rfl⟩,⟨rfl,⟨⟨(congrArg iv (o11 hp x3 hx3 h4 h13)),rfl⟩,⟨(congrArg iv (o12 hp x3 hx3 h4 h13)),rfl⟩,tv⟩,rfl⟩,tv⟩,rfl,rfl⟩) (o13 hp x3 hx3 h4 h13) (o14 hp x3 hx3 h4 h13)
  ·refine swp_skip ?_
   refine sQ (kt:=[4,7,23,8]) (kh:=[8,5000]) (q:=inI ((x3:Int) + 1)/\True/\True) (st':=ASt.mk [(4,.ptr 8 []),(7,.rp [.rp (cHo g c (tS g c (Hs.things g).length) (tB g c (Hs.things g).length))]),(23,iv ((x3:Int) + 1)),(8,.ptr 5000 [])] [(8,.cells 37 [iv 0,iv 0]),(5000,.cells 37 (cSpan (timeTo g c x3)))] 10264) ⟨(o15 hp x3 hx3 h4 h13),tv,tv⟩ ?_
   exact loop_next (z100_1 g c) x3 (eQ hE [] [(8,.same 8),(5000,.same 5000)] [7] [8] (((zP 8)/\(zT (AV.rp [AV.rp (cHo g c (tS g c (Hs.things g).length) (tB g c (Hs.things g).length))]))/\(zN (iv ((x3:Int) + 1)) (iv (↑(x3 + 1):Int)))/\(zP 5000)/\True)/\((zT (OB.cells 37 [iv 0,iv 0]))/\(37=37/\((zN (iv (timeTo g c x3).lo) (iv (timeTo g c (x3 + 1)).lo))/\(zN (iv (timeTo g c x3).hi) (iv (timeTo g c (x3 + 1)).hi))/\True)/\true=true)/\True)/\T2) ⟨⟨⟨rfl,rfl⟩,⟨rfl,rfl⟩,⟨(congrArg iv (o16 hp x3 hx3 h4 h13)),rfl⟩,⟨rfl,rfl⟩,tv⟩,⟨⟨rfl,rfl⟩,⟨rfl,⟨⟨(congrArg iv (o17 hp x3 hx3 h4 h13)),rfl⟩,⟨(congrArg iv (o18 hp x3 hx3 h4 h13)),rfl⟩,tv⟩,rfl⟩,tv⟩,rfl,rfl⟩) (o19 hp x3 hx3 h4 h13) (o20 hp x3 hx3 h4 h13)
 ·refine swp_exit (swp_seq (swp_seq ?_))
  refine sQ (kt:=[4,8,42]) (kh:=[8,5000]) (q:=tn 3) (st':=ASt.mk [(4,.ptr 8 []),(8,.ptr 5000 []),(42,bv (decide ((timeTo g c x3).lo=100)))] [(8,.cells 37 [iv 0,iv 0]),(5000,.cells 37 (cSpan (timeTo g c x3)))] 10184) (tp 3) ?_
  refine swp_cond (decide ((timeTo g c x3).lo=100)) (by kernel_rfl) (fun h14 => ?_) (fun h14 => ?_)
  ·refine swp_seq ?_
   refine sQ (kt:=[4,5]) (kh:=[8]) (q:=tn 3) (st':=ASt.mk [(4,.ptr 8 []),(5,iv 3)] [(8,.cells 37 [iv 0,iv 0])] 10208) (tp 3) ?_
   refine swp_ret ?_
   exact rQ [] ((True/\True/\True)/\(((zN (iv 0) (iv (timeV g c).lo))/\(zN (iv 0) (iv (timeV g c).hi))/\True)/\(zN (iv 3) (iv (timeE g c)))/\True)/\T3) ⟨⟨tv,tv,tv⟩,⟨⟨⟨(congrArg iv (o21 hp x3 hx3 h4 h14)),rfl⟩,⟨(congrArg iv (o22 hp x3 hx3 h4 h14)),rfl⟩,tv⟩,⟨(congrArg iv (o23 hp x3 hx3 h4 h14)),rfl⟩,tv⟩,rfl,rfl,rfl⟩
  ·refine swp_skip (swp_seq ?_)
   refine sQ (kt:=[4,5]) (kh:=[8]) (q:=tn 3) (st':=ASt.mk [(4,.ptr 8 []),(5,iv 0)] [(8,.cells 37 (cSpan (timeTo g c x3)))] 10208) (tp 3) ?_
   refine swp_ret ?_
   exact rQ [] ((True/\True/\True)/\(((zN (iv (timeTo g c x3).lo) (iv (timeV g c).lo))/\(zN (iv (timeTo g c x3).hi) (iv (timeV g c).hi))/\True)/\(zN (iv 0) (iv (timeE g c)))/\True)/\T3) ⟨⟨tv,tv,tv⟩,⟨⟨⟨(congrArg iv (o24 hp x3 hx3 h4 h14)),rfl⟩,⟨(congrArg iv (o25 hp x3 hx3 h4 h14)),rfl⟩,tv⟩,⟨(congrArg iv (o26 hp x3 hx3 h4 h14)),rfl⟩,tv⟩,rfl,rfl,rfl⟩
theorem time_t {g:Hs} {c:Int} {n:Nat} (h:mixedB (tS g c g.things.length) (thTo (atP g (n:Int)) g.things.length) (n:Int)=true):timeTo g c (n + 1)=⟨min (timeTo g c n).lo (n:Int),(n:Int)⟩:=by
 have h':mixedB (sinceV g c) (thTo (atP g (n:Int)) g.things.length) (n:Int)=true:=h
 rw [timeTo,if_pos h']
theorem time_f {g:Hs} {c:Int} {n:Nat} (h:mixedB (tS g c g.things.length) (thTo (atP g (n:Int)) g.things.length) (n:Int)=false):timeTo g c (n + 1)=timeTo g c n:=by
 have h':mixedB (sinceV g c) (thTo (atP g (n:Int)) g.things.length) (n:Int)=false:=h
 rw [timeTo,h']; rfl
theorem t100 (g:Hs) (c:Int):Triple Try.prog 100 (s100 g c):=by
 apply w100
 case o5 =>
  intro E0 hp x hx hl E us le hlen hr
  refine fnok_arg (vals:=[.rp (cHo g c (tS g c g.things.length) (tB g c g.things.length)),.clo 127 [.rp [.rp (cHo g c (tS g c g.things.length) (tB g c g.things.length))],.rp [iv x]]]) 1 (fun j' h => ?_) (fun E u hu w=>fnok_clo (caps:=[.rp [.rp (cHo g c (tS g c g.things.length) (tB g c g.things.length))],.rp [iv x]]) (s127 (w.1:Int) (thg g w.1) g c (tS g c g.things.length) (tB g c g.things.length) x) (t127 _ _ _ _ _ _ _) rfl ⟨by omega,by have:=w.2; omega⟩ (fun _=>trivial) rfl rfl rfl rfl rfl hu) E us le hlen hr
  match j',h with
  | 0,h=>cases h
  | 1,_=>rfl
  | n + 2,h=>simp at h
 all_goals (first | ((repeat intro _) <;> (try simp only [v0,v1,v2,v3,v4,v5,v6,v7,v8,v9,inI,fits,Go.Sh.small] at *) <;> first | (exact rfl) | omega | exact vz | (simp_all; done) | (simp_all; omega)) | skip)
 all_goals (intro hp; obtain ⟨hok,hc⟩:=hp; obtain ⟨l1,l2,hT,hM⟩:=okH_iff.1 hok; intro x hx hl; simp only [decide_eq_true_eq,decide_eq_false_iff_not] at hl)
 case o4=>exact l1
 case o6=>have:=thTo_len (atP g (x:Int)) g.things.length; omega
 case o7 | o8 =>
  intro v hv
  obtain ⟨i,a,b,_⟩:=mem_thTo hv
  omega
 all_goals (intro hh)
 case o11 | o12=>rw [time_t hh]
 case o17 | o18=>rw [time_f hh]
 all_goals (have e:x=100:=(by omega); subst e)
 case o21 | o22=>rw [timeV,if_pos (of_decide_eq_true hh)]
 case o23=>rw [timeE,if_pos (of_decide_eq_true hh)]
 case o24 | o25=>rw [timeV,if_neg (of_decide_eq_false hh)]
 case o26=>rw [timeE,if_neg (of_decide_eq_false hh)]
end Go.Ab
namespace Go.Sh
structure WayS where
 frm:List Int
 whn:Nat->Nat->Span
def upd2 (f:Nat->Nat->Span) (m p:Nat) (s:Span):Nat->Nat->Span:=fun j q=>if j=m then (if q=p then s else f j q) else f j q
def seeOne (c:Fnd) (p:Nat) (s:Span):Span:=if c.new.getD p 0=0 then ⟨max s.lo (c.minute + 1),s.hi⟩ else if c.new.getD p 0=1 then ⟨s.lo,min s.hi c.minute⟩ else s
def seeN (c:Fnd) (m:Nat):Nat->Nat->(Nat->Nat->Span)->Bool × (Nat->Nat->Span)
 | 0,_,f=>(true,f)
 | k + 1,p,f=>if (seeOne c p (f m p)).lo > (seeOne c p (f m p)).hi then (false,upd2 f m p (seeOne c p (f m p))) else seeN c m k (p + 1) (upd2 f m p (seeOne c p (f m p)))
def see (c:Fnd) (m:Nat) (f:Nat->Nat->Span):Bool × (Nat->Nat->Span):=seeN c m c.new.length 0 f
theorem seeN_stop {c:Fnd} {m k p:Nat} {f:Nat->Nat->Span} (h:(seeOne c p (f m p)).lo > (seeOne c p (f m p)).hi):seeN c m (k + 1) p f=(false,upd2 f m p (seeOne c p (f m p))):=by rw [seeN,if_pos h]
theorem seeN_go {c:Fnd} {m k p:Nat} {f:Nat->Nat->Span} (h:¬ (seeOne c p (f m p)).lo > (seeOne c p (f m p)).hi):seeN c m (k + 1) p f=seeN c m k (p + 1) (upd2 f m p (seeOne c p (f m p))):=by rw [seeN,if_neg h]
theorem upd2_at (f:Nat->Nat->Span) (m p:Nat) (s:Span):upd2 f m p s m p=s:=by simp [upd2]
theorem see_stop {c:Fnd} {m x:Nat} {f g:Nat->Nat->Span} (hx:see c m f=seeN c m (c.new.length - x) x g) (hl:x < c.new.length) (h:(upd2 g m x (seeOne c x (g m x)) m x).hi < (upd2 g m x (seeOne c x (g m x)) m x).lo):see c m f=(false,upd2 g m x (seeOne c x (g m x))):=by
 rw [upd2_at] at h
 rw [hx,show c.new.length - x=(c.new.length - (x + 1)) + 1 by omega,seeN_stop h]
theorem see_go {c:Fnd} {m x:Nat} {f g:Nat->Nat->Span} (hx:see c m f=seeN c m (c.new.length - x) x g) (hl:x < c.new.length) (h:¬ (upd2 g m x (seeOne c x (g m x)) m x).hi < (upd2 g m x (seeOne c x (g m x)) m x).lo):see c m f=seeN c m (c.new.length - (x + 1)) (x + 1) (upd2 g m x (seeOne c x (g m x))):=by
 rw [upd2_at] at h
 rw [hx,show c.new.length - x=(c.new.length - (x + 1)) + 1 by omega,seeN_go h]
theorem see_end {c:Fnd} {m x:Nat} {f g:Nat->Nat->Span} (hx:see c m f=seeN c m (c.new.length - x) x g) (hl:c.new.length<=x):see c m f=(true,g):=by
 rw [hx,show c.new.length - x=0 by omega,seeN]
theorem upd2_id (f:Nat->Nat->Span) (m p:Nat):upd2 f m p (f m p)=f:=by
 funext j q
 unfold upd2
 split
 ·rename_i e; subst e; split
  ·rename_i e; subst e; rfl
  ·rfl
 ·rfl
end Go.Sh
namespace Go.En
open Go Go.Ab Go.Sh
def cWay (w:WayS):List AV:=[aInts w.frm,.arr 6 3 (fun m=>[.arr 2 3 (fun p=>cSpan (w.whn m p))])]
end Go.En
namespace Go.Ab
open Go Go.RowKit Go.Proofs Go.Sh Go.En
def s139 (b:Nat) (frm:List Int) (f:Nat->Nat->Span) (c:Fnd) (m:Nat):CallSpec:=ptrSpec b [.fld 1] [vFnd c,iv m] 107 (cWay ⟨frm,f⟩) (cWay ⟨frm,(see c m f).2⟩) (m < 3/\c.new.length<=3/\0<=c.minute/\c.minute<=1000) (bv (see c m f).1)
def h139 (b:Nat) (frm:List Int) (f:Nat->Nat->Span) (c:Fnd) (m:Nat):Hint:={ X:=Nat × (Nat->Nat->Span),M:=fun x=>[(13,iv x.1)],H:=fun x=>[(0,.cells 107 (cWay ⟨frm,x.2⟩))],I:=fun x=>x.1<=c.new.length/\see c m f=seeN c m (c.new.length - x.1) x.1 x.2,mu:=fun x=>c.new.length - x.1,x0:=(0,f),nx:=fun x=>(x.1 + 1,upd2 x.2 m x.1 (seeOne c x.1 (x.2 m x.1))) }
end Go.Ab
namespace Go.Ab
open Go Go.RowKit Go.Proofs Go.Sh Go.En
abbrev z139_1 (b:Nat) (frm:List Int) (f:Nat->Nat->Span) (c:Fnd) (m:Nat):LoopAnn:=Hint.ann (h139 b frm f c m) [(0,AV.ptr 0 [PS.fld 1]),(2,iv (m:Int)),(4,AV.ptr 1 []),(11,aInts c.new),(12,iv (↑(c.new.length):Int))] [(1,OB.cells 32 (cFnd c))] 10049
abbrev q139_1 (b:Nat) (frm:List Int) (f:Nat->Nat->Span) (c:Fnd) (m:Nat) (C:Prop):Prop:=m < 3/\c.new.length<=3/\0<=c.minute/\c.minute<=1000->C
abbrev q139_2 (b:Nat) (frm:List Int) (f:Nat->Nat->Span) (c:Fnd) (m:Nat) (C:(Nat × (Nat->Nat->Span))->Prop):Prop:=q139_1 b frm f c m (∀ (x0:Nat × (Nat->Nat->Span)),x0.1<=c.new.length/\see c m f=seeN c m (c.new.length - x0.1) x0.1 x0.2->C x0)
abbrev q139_3 (b:Nat) (frm:List Int) (f:Nat->Nat->Span) (c:Fnd) (m:Nat) (C:(Nat × (Nat->Nat->Span))->Prop):Prop:=q139_2 b frm f c m fun x0=>decide ((↑(x0.1):Int) < (↑(c.new.length):Int))=true->C x0
abbrev q139_4 (b:Nat) (frm:List Int) (f:Nat->Nat->Span) (c:Fnd) (m:Nat) (C:(Nat × (Nat->Nat->Span))->Prop):Prop:=q139_3 b frm f c m fun x0=>decide (c.new.getD x0.1 0=0)=true->C x0
abbrev q139_5 (b:Nat) (frm:List Int) (f:Nat->Nat->Span) (c:Fnd) (m:Nat) (C:(Nat × (Nat->Nat->Span))->Prop):Prop:=q139_4 b frm f c m fun x0=>decide (((WayS.mk frm (upd2 x0.2 m x0.1 (seeOne c x0.1 (x0.2 m x0.1)))).whn m x0.1).hi < ((WayS.mk frm (upd2 x0.2 m x0.1 (seeOne c x0.1 (x0.2 m x0.1)))).whn m x0.1).lo)=true->C x0
abbrev q139_6 (b:Nat) (frm:List Int) (f:Nat->Nat->Span) (c:Fnd) (m:Nat) (C:(Nat × (Nat->Nat->Span))->Prop):Prop:=q139_4 b frm f c m fun x0=>decide (((WayS.mk frm (upd2 x0.2 m x0.1 (seeOne c x0.1 (x0.2 m x0.1)))).whn m x0.1).hi < ((WayS.mk frm (upd2 x0.2 m x0.1 (seeOne c x0.1 (x0.2 m x0.1)))).whn m x0.1).lo)=false->C x0
abbrev q139_7 (b:Nat) (frm:List Int) (f:Nat->Nat->Span) (c:Fnd) (m:Nat) (C:(Nat × (Nat->Nat->Span))->Prop):Prop:=q139_3 b frm f c m fun x0=>decide (c.new.getD x0.1 0=0)=false->decide (c.new.getD x0.1 0=1)=true->C x0
abbrev q139_8 (b:Nat) (frm:List Int) (f:Nat->Nat->Span) (c:Fnd) (m:Nat) (C:(Nat × (Nat->Nat->Span))->Prop):Prop:=q139_7 b frm f c m fun x0=>decide (((WayS.mk frm (upd2 x0.2 m x0.1 (seeOne c x0.1 (x0.2 m x0.1)))).whn m x0.1).hi < ((WayS.mk frm (upd2 x0.2 m x0.1 (seeOne c x0.1 (x0.2 m x0.1)))).whn m x0.1).lo)=true->C x0
abbrev q139_9 (b:Nat) (frm:List Int) (f:Nat->Nat->Span) (c:Fnd) (m:Nat) (C:(Nat × (Nat->Nat->Span))->Prop):Prop:=q139_7 b frm f c m fun x0=>decide (((WayS.mk frm (upd2 x0.2 m x0.1 (seeOne c x0.1 (x0.2 m x0.1)))).whn m x0.1).hi < ((WayS.mk frm (upd2 x0.2 m x0.1 (seeOne c x0.1 (x0.2 m x0.1)))).whn m x0.1).lo)=false->C x0
abbrev q139_10 (b:Nat) (frm:List Int) (f:Nat->Nat->Span) (c:Fnd) (m:Nat) (C:(Nat × (Nat->Nat->Span))->Prop):Prop:=q139_3 b frm f c m fun x0=>decide (c.new.getD x0.1 0=0)=false->decide (c.new.getD x0.1 0=1)=false->C x0
abbrev q139_11 (b:Nat) (frm:List Int) (f:Nat->Nat->Span) (c:Fnd) (m:Nat) (C:(Nat × (Nat->Nat->Span))->Prop):Prop:=q139_10 b frm f c m fun x0=>decide (((WayS.mk frm (upd2 x0.2 m x0.1 (seeOne c x0.1 (x0.2 m x0.1)))).whn m x0.1).hi < ((WayS.mk frm (upd2 x0.2 m x0.1 (seeOne c x0.1 (x0.2 m x0.1)))).whn m x0.1).lo)=true->C x0
abbrev q139_12 (b:Nat) (frm:List Int) (f:Nat->Nat->Span) (c:Fnd) (m:Nat) (C:(Nat × (Nat->Nat->Span))->Prop):Prop:=q139_10 b frm f c m fun x0=>decide (((WayS.mk frm (upd2 x0.2 m x0.1 (seeOne c x0.1 (x0.2 m x0.1)))).whn m x0.1).hi < ((WayS.mk frm (upd2 x0.2 m x0.1 (seeOne c x0.1 (x0.2 m x0.1)))).whn m x0.1).lo)=false->C x0
theorem w139 (b:Nat) (frm:List Int) (f:Nat->Nat->Span) (c:Fnd) (m:Nat)
 (o0:q139_1 b frm f c m (0=(↑0:Int)))
 (o1:q139_1 b frm f c m ((0,f).1<=c.new.length/\see c m f=seeN c m (c.new.length - (0,f).1) (0,f).1 (0,f).2))
 (o2:q139_3 b frm f c m fun x0=>0<=(↑(x0.1):Int))
 (o3:q139_3 b frm f c m fun x0=>(↑(x0.1):Int) < (↑(c.new.length):Int))
 (o4:q139_3 b frm f c m fun x0=>0<=(m:Int))
 (o5:q139_3 b frm f c m fun x0=>(m:Int) < (↑3:Int))
 (o6:q139_3 b frm f c m fun x0=>0<=(↑(x0.1):Int))
 (o7:q139_3 b frm f c m fun x0=>(↑(x0.1):Int) < (↑3:Int))
 (o8:q139_4 b frm f c m fun x0=>x0.1 < 3)
 (o9:q139_4 b frm f c m fun x0=>inI (c.minute + 1))
 (o10:q139_4 b frm f c m fun x0=>x0.1 < 3)
 (o11:q139_4 b frm f c m fun x0 => ∀ (i5:Nat),i5 < 3->Decidable.rec (fun (h:¬i5=m)=>[AV.arr 2 3 fun (p:Nat)=>cSpan ((WayS.mk frm x0.2).whn i5 p)]) (fun (h:i5=m)=>[AV.arr 2 3 fun (j:Nat)=>if j=x0.1 then [] ++ ([iv (max ((WayS.mk frm x0.2).whn m x0.1).lo (c.minute + 1))] ++ [iv ((WayS.mk frm x0.2).whn m x0.1).hi]) else cSpan ((WayS.mk frm x0.2).whn m j)]) (instDecidableEqNat i5 m) = [AV.arr 2 3 fun (p:Nat)=>cSpan ((WayS.mk frm (upd2 x0.2 m x0.1 (seeOne c x0.1 (x0.2 m x0.1)))).whn i5 p)])
 (o12:q139_4 b frm f c m fun x0=>x0.1 < 3)
 (o13:q139_4 b frm f c m fun x0=>x0.1 < 3)
 (o14:q139_5 b frm f c m fun x0=>false=(see c m f).1)
 (o15:q139_5 b frm f c m fun x0=>cWay (WayS.mk frm (upd2 x0.2 m x0.1 (seeOne c x0.1 (x0.2 m x0.1))))=cWay (WayS.mk frm (see c m f).2))
 (o16:q139_6 b frm f c m fun x0=>inI ((↑(x0.1):Int) + 1))
 (o17:q139_6 b frm f c m fun x0=>(↑(x0.1):Int) + 1=(↑(x0.1 + 1):Int))
 (o18:q139_6 b frm f c m fun x0=>(x0.1 + 1,upd2 x0.2 m x0.1 (seeOne c x0.1 (x0.2 m x0.1))).1<=c.new.length/\see c m f=seeN c m (c.new.length - (x0.1 + 1,upd2 x0.2 m x0.1 (seeOne c x0.1 (x0.2 m x0.1))).1) (x0.1 + 1,upd2 x0.2 m x0.1 (seeOne c x0.1 (x0.2 m x0.1))).1 (x0.1 + 1,upd2 x0.2 m x0.1 (seeOne c x0.1 (x0.2 m x0.1))).2)
 (o19:q139_6 b frm f c m fun x0=>c.new.length - (x0.1 + 1,upd2 x0.2 m x0.1 (seeOne c x0.1 (x0.2 m x0.1))).1 < c.new.length - x0.1)
 (o20:q139_7 b frm f c m fun x0=>x0.1 < 3)
 (o21:q139_7 b frm f c m fun x0=>x0.1 < 3)
 (o22:q139_7 b frm f c m fun x0 => ∀ (i11:Nat),i11 < 3->Decidable.rec (fun (h:¬i11=m)=>[AV.arr 2 3 fun (p:Nat)=>cSpan ((WayS.mk frm x0.2).whn i11 p)]) (fun (h:i11=m)=>[AV.arr 2 3 fun (j:Nat)=>if j=x0.1 then [iv ((WayS.mk frm x0.2).whn m x0.1).lo] ++ ([iv (min ((WayS.mk frm x0.2).whn m x0.1).hi c.minute)] ++ []) else cSpan ((WayS.mk frm x0.2).whn m j)]) (instDecidableEqNat i11 m) = [AV.arr 2 3 fun (p:Nat)=>cSpan ((WayS.mk frm (upd2 x0.2 m x0.1 (seeOne c x0.1 (x0.2 m x0.1)))).whn i11 p)])
 (o23:q139_7 b frm f c m fun x0=>x0.1 < 3)
 (o24:q139_7 b frm f c m fun x0=>x0.1 < 3)
 (o25:q139_8 b frm f c m fun x0=>false=(see c m f).1)
 (o26:q139_8 b frm f c m fun x0=>cWay (WayS.mk frm (upd2 x0.2 m x0.1 (seeOne c x0.1 (x0.2 m x0.1))))=cWay (WayS.mk frm (see c m f).2))
 (o27:q139_9 b frm f c m fun x0=>inI ((↑(x0.1):Int) + 1))
 (o28:q139_9 b frm f c m fun x0=>(↑(x0.1):Int) + 1=(↑(x0.1 + 1):Int))
 (o29:q139_9 b frm f c m fun x0=>(x0.1 + 1,upd2 x0.2 m x0.1 (seeOne c x0.1 (x0.2 m x0.1))).1<=c.new.length/\see c m f=seeN c m (c.new.length - (x0.1 + 1,upd2 x0.2 m x0.1 (seeOne c x0.1 (x0.2 m x0.1))).1) (x0.1 + 1,upd2 x0.2 m x0.1 (seeOne c x0.1 (x0.2 m x0.1))).1 (x0.1 + 1,upd2 x0.2 m x0.1 (seeOne c x0.1 (x0.2 m x0.1))).2)
 (o30:q139_9 b frm f c m fun x0=>c.new.length - (x0.1 + 1,upd2 x0.2 m x0.1 (seeOne c x0.1 (x0.2 m x0.1))).1 < c.new.length - x0.1)
 (o31:q139_10 b frm f c m fun x0 => ∀ (i16:Nat),i16 < 3 -> [AV.arr 2 3 fun (p:Nat)=>cSpan ((WayS.mk frm x0.2).whn i16 p)] = [AV.arr 2 3 fun (p:Nat)=>cSpan ((WayS.mk frm (upd2 x0.2 m x0.1 (seeOne c x0.1 (x0.2 m x0.1)))).whn i16 p)])
 (o32:q139_10 b frm f c m fun x0=>x0.1 < 3)
 (o33:q139_10 b frm f c m fun x0=>x0.1 < 3)
 (o34:q139_11 b frm f c m fun x0=>false=(see c m f).1)
 (o35:q139_11 b frm f c m fun x0=>cWay (WayS.mk frm (upd2 x0.2 m x0.1 (seeOne c x0.1 (x0.2 m x0.1))))=cWay (WayS.mk frm (see c m f).2))
 (o36:q139_12 b frm f c m fun x0=>inI ((↑(x0.1):Int) + 1))
 (o37:q139_12 b frm f c m fun x0=>(↑(x0.1):Int) + 1=(↑(x0.1 + 1):Int))
 (o38:q139_12 b frm f c m fun x0=>(x0.1 + 1,upd2 x0.2 m x0.1 (seeOne c x0.1 (x0.2 m x0.1))).1<=c.new.length/\see c m f=seeN c m (c.new.length - (x0.1 + 1,upd2 x0.2 m x0.1 (seeOne c x0.1 (x0.2 m x0.1))).1) (x0.1 + 1,upd2 x0.2 m x0.1 (seeOne c x0.1 (x0.2 m x0.1))).1 (x0.1 + 1,upd2 x0.2 m x0.1 (seeOne c x0.1 (x0.2 m x0.1))).2)
 (o39:q139_12 b frm f c m fun x0=>c.new.length - (x0.1 + 1,upd2 x0.2 m x0.1 (seeOne c x0.1 (x0.2 m x0.1))).1 < c.new.length - x0.1)
 (o40:q139_2 b frm f c m fun x0=>decide ((↑(x0.1):Int) < (↑(c.new.length):Int))=false->true=(see c m f).1)
 (o41:q139_2 b frm f c m fun x0=>decide ((↑(x0.1):Int) < (↑(c.new.length):Int))=false->cWay (WayS.mk frm x0.2)=cWay (WayS.mk frm (see c m f).2)) :
  Triple Try.prog 139 (s139 b frm f c m):=by
 refine triple_ptr Try.func139 rfl Try.call139 T0_ok (b) ([PS.fld 1]) ([vFnd c,iv (m:Int)]) (107) (cWay (WayS.mk frm f)) (cWay (WayS.mk frm (see c m f).2)) (m < 3/\c.new.length<=3/\0<=c.minute/\c.minute<=1000) (bv (see c m f).1) rfl rfl rfl rfl (Nat.le_of_ble_eq_true (by kernel_rfl)) ?_
 intro hp C hC hE
 obtain ⟨P,w0,E0,av,hA⟩:=C
 subst hC
 refine swp_seq ?_
 refine sQ (kt:=[0,2,4]) (kh:=[0,1]) (q:=tn 2) (st':=ASt.mk [(0,.ptr 0 [PS.fld 1]),(2,iv (m:Int)),(4,.ptr 1 [])] [(0,.cells 107 (cWay (WayS.mk frm f))),(1,.cells 32 (cFnd c))] 17) (tp 2) ?_
 refine swp_seq (swp_seq ?_)
 refine sQ (kt:=[0,2,4,11,12,13]) (kh:=[0,1]) (q:=tn 4) (st':=ASt.mk [(0,.ptr 0 [PS.fld 1]),(2,iv (m:Int)),(4,.ptr 1 []),(11,aInts c.new),(12,iv (↑(c.new.length):Int)),(13,iv 0)] [(0,.cells 107 (cWay (WayS.mk frm f))),(1,.cells 32 (cFnd c))] 49) (tp 4) ?_
 refine swp_block ?_
 refine swp_loopA (z139_1 b frm f c m) (ent_p hE [] [(0,.same 0),(1,.same 1)] [2,11,12] [1,0] (((zE (some (Src.same 0))/\zE [PS.fld 1])/\(zT (iv (m:Int)))/\(zP 1)/\(zT (aInts c.new))/\(zT (iv (↑(c.new.length):Int)))/\(zN (iv 0) (iv (↑0:Int)))/\True)/\((zT (OB.cells 32 (cFnd c)))/\(zT (OB.cells 107 (cWay (WayS.mk frm f))))/\True)/\T2) (by kernel_rfl) (by kernel_rfl) ⟨⟨⟨rfl,rfl⟩,⟨rfl,rfl⟩,⟨rfl,rfl⟩,⟨rfl,rfl⟩,⟨rfl,rfl⟩,⟨(congrArg iv (o0 hp)),rfl⟩,tv⟩,⟨⟨rfl,rfl⟩,⟨rfl,rfl⟩,tv⟩,rfl,rfl⟩) (o1 hp) (fun (x0:Nat × (Nat->Nat->Span)) hx0 => ?_)
 refine swp_seq ?_
 refine sQ (kt:=[0,2,4,11,12,13,14]) (kh:=[0,1]) (q:=True/\True) (st':=ASt.mk [(0,.ptr 0 [PS.fld 1]),(2,iv (m:Int)),(4,.ptr 1 []),(11,aInts c.new),(12,iv (↑(c.new.length):Int)),(13,iv (↑(x0.1):Int)),(14,bv (decide ((↑(x0.1):Int) < (↑(c.new.length):Int))))] [(0,.cells 107 (cWay (WayS.mk frm x0.2))),(1,.cells 32 (cFnd c))] 10057) ⟨tv,tv⟩ ?_
 refine swp_seq ?_
 refine swp_cond (decide ((↑(x0.1):Int) < (↑(c.new.length):Int))) (by kernel_rfl) (fun h1 => ?_) (fun h1 => ?_)
 ·refine swp_skip (swp_seq (swp_block (swp_seq ?_)))
  refine sQ (kt:=[0,2,4,11,12,13,7,8]) (kh:=[0,1]) (q:=True/\(0<=(↑(x0.1):Int)/\(↑(x0.1):Int) < (↑(c.new.length):Int))/\tn 3) (st':=ASt.mk [(0,.ptr 0 [PS.fld 1]),(2,iv (m:Int)),(4,.ptr 1 []),(11,aInts c.new),(12,iv (↑(c.new.length):Int)),(13,iv (↑(x0.1):Int)),(7,iv (↑(x0.1):Int)),(8,iv (c.new.getD x0.1 0))] [(0,.cells 107 (cWay (WayS.mk frm x0.2))),(1,.cells 32 (cFnd c))] 10097) ⟨tv,⟨(o2 hp x0 hx0 h1),(o3 hp x0 hx0 h1)⟩,tp 3⟩ ?_
  refine swp_seq ?_
  refine sQ (kt:=[0,2,4,11,12,13,8,9]) (kh:=[0,1]) (q:=True/\True/\True/\True/\(0<=(m:Int)/\(m:Int) < (↑3:Int))/\(0<=(↑(x0.1):Int)/\(↑(x0.1):Int) < (↑3:Int))/\True/\True) (st':=ASt.mk [(0,.ptr 0 [PS.fld 1]),(2,iv (m:Int)),(4,.ptr 1 []),(11,aInts c.new),(12,iv (↑(c.new.length):Int)),(13,iv (↑(x0.1):Int)),(8,iv (c.new.getD x0.1 0)),(9,.ptr 0 [PS.fld 1,PS.idx m 6,PS.idx x0.1 2])] [(0,.cells 107 (cWay (WayS.mk frm x0.2))),(1,.cells 32 (cFnd c))] 10153) ⟨tv,tv,tv,tv,⟨(o4 hp x0 hx0 h1),(o5 hp x0 hx0 h1)⟩,⟨(o6 hp x0 hx0 h1),(o7 hp x0 hx0 h1)⟩,tv,tv⟩ ?_
  refine swp_seq (swp_seq ?_)
  refine sQ (kt:=[0,2,4,11,12,13,9,24]) (kh:=[0,1]) (q:=True/\True) (st':=ASt.mk [(0,.ptr 0 [PS.fld 1]),(2,iv (m:Int)),(4,.ptr 1 []),(11,aInts c.new),(12,iv (↑(c.new.length):Int)),(13,iv (↑(x0.1):Int)),(9,.ptr 0 [PS.fld 1,PS.idx m 6,PS.idx x0.1 2]),(24,iv (c.new.getD x0.1 0))] [(0,.cells 107 (cWay (WayS.mk frm x0.2))),(1,.cells 32 (cFnd c))] 10161) ⟨tv,tv⟩ ?_
  refine swp_block (swp_seq ?_)
  refine sQ (kt:=[0,2,4,11,12,13,9,24,25]) (kh:=[0,1]) (q:=tn 2) (st':=ASt.mk [(0,.ptr 0 [PS.fld 1]),(2,iv (m:Int)),(4,.ptr 1 []),(11,aInts c.new),(12,iv (↑(c.new.length):Int)),(13,iv (↑(x0.1):Int)),(9,.ptr 0 [PS.fld 1,PS.idx m 6,PS.idx x0.1 2]),(24,iv (c.new.getD x0.1 0)),(25,bv (decide (c.new.getD x0.1 0=0)))] [(0,.cells 107 (cWay (WayS.mk frm x0.2))),(1,.cells 32 (cFnd c))] 10177) (tp 2) ?_
  refine swp_cond (decide (c.new.getD x0.1 0=0)) (by kernel_rfl) (fun h2 => ?_) (fun h2 => ?_)
  ·refine sQ (kt:=[0,2,4,11,12,13,9]) (kh:=[0,1]) (q:=True/\True/\True/\True/\(m < 3/\x0.1 < 3/\True)/\True/\True/\inI (c.minute + 1)/\True/\True/\True/\(m < 3/\x0.1 < 3/\True)/\True) (st':=ASt.mk [(0,.ptr 0 [PS.fld 1]),(2,iv (m:Int)),(4,.ptr 1 []),(11,aInts c.new),(12,iv (↑(c.new.length):Int)),(13,iv (↑(x0.1):Int)),(9,.ptr 0 [PS.fld 1,PS.idx m 6,PS.idx x0.1 2])] [(0,.cells 107 [aInts frm,.arr 6 3 fun (j:Nat)=>Decidable.rec (fun (h:¬j=m)=>[.arr 2 3 fun (p:Nat)=>cSpan ((WayS.mk frm x0.2).whn j p)]) (fun (h:j=m)=>[.arr 2 3 fun (j:Nat)=>if j=x0.1 then [] ++ ([iv (max ((WayS.mk frm x0.2).whn m x0.1).lo (c.minute + 1))] ++ [iv ((WayS.mk frm x0.2).whn m x0.1).hi]) else cSpan ((WayS.mk frm x0.2).whn m j)]) (instDecidableEqNat j m)]),(1,.cells 32 (cFnd c))] 10273) ⟨tv,tv,tv,tv,⟨hp.1,(o8 hp x0 hx0 h1 h2),tv⟩,tv,tv,(o9 hp x0 hx0 h1 h2),tv,tv,tv,⟨hp.1,(o10 hp x0 hx0 h1 h2),tv⟩,tv⟩ ?_
   refine swp_seq ?_
   refine swp_ent (ent_p (st2:=ASt.mk [(0,AV.ptr 0 [PS.fld 1]),(2,iv (m:Int)),(4,AV.ptr 1 []),(11,aInts c.new),(12,iv (↑(c.new.length):Int)),(13,iv (↑(x0.1):Int)),(9,AV.ptr 0 [PS.fld 1,PS.idx m 6,PS.idx x0.1 2])] [(0,OB.cells 107 (cWay (WayS.mk frm (upd2 x0.2 m x0.1 (seeOne c x0.1 (x0.2 m x0.1)))))),(1,OB.cells 32 (cFnd c))] 10273) hE [] [(0,.same 0),(1,.same 1)] [2,11,12,13] [1] (((zE (some (Src.same 0))/\zE [PS.fld 1])/\(zT (iv (m:Int)))/\(zP 1)/\(zT (aInts c.new))/\(zT (iv (↑(c.new.length):Int)))/\(zT (iv (↑(x0.1):Int)))/\(zE (some (Src.same 0))/\zE [PS.fld 1,PS.idx m 6,PS.idx x0.1 2])/\True)/\((107=107/\((1=1/\frm.length=frm.length /\ ∀ (i3:Nat),i3 < frm.length -> [iv (frm.getD i3 0)] = [iv (frm.getD i3 0)])/\(6=6/\3=3 /\ ∀ (i5:Nat),i5 < 3->Decidable.rec (fun (h:¬i5=m)=>[AV.arr 2 3 fun (p:Nat)=>cSpan ((WayS.mk frm x0.2).whn i5 p)]) (fun (h:i5=m)=>[AV.arr 2 3 fun (j:Nat)=>if j=x0.1 then [] ++ ([iv (max ((WayS.mk frm x0.2).whn m x0.1).lo (c.minute + 1))] ++ [iv ((WayS.mk frm x0.2).whn m x0.1).hi]) else cSpan ((WayS.mk frm x0.2).whn m j)]) (instDecidableEqNat i5 m) = [AV.arr 2 3 fun (p:Nat)=>cSpan ((WayS.mk frm (upd2 x0.2 m x0.1 (seeOne c x0.1 (x0.2 m x0.1)))).whn i5 p)])/\True)/\true=true)/\(zT (OB.cells 32 (cFnd c)))/\True)/\T2) (by kernel_rfl) (by kernel_rfl) ⟨⟨⟨rfl,rfl⟩,⟨rfl,rfl⟩,⟨rfl,rfl⟩,⟨rfl,rfl⟩,⟨rfl,rfl⟩,⟨rfl,rfl⟩,⟨rfl,rfl⟩,tv⟩,⟨⟨rfl,⟨⟨rfl,rfl,(fun i3=>(fun h4=>rfl))⟩,⟨rfl,rfl,(fun i5=>(fun h6=>(o11 hp x0 hx0 h1 h2 i5 h6)))⟩,tv⟩,rfl⟩,⟨rfl,rfl⟩,tv⟩,rfl,rfl⟩) ?_
   refine sQ (kt:=[0,2,4,11,12,13,58]) (kh:=[0,1]) (q:=True/\True/\True/\(m < 3/\x0.1 < 3/\True)/\True/\True/\True/\(m < 3/\x0.1 < 3/\True)/\True/\True) (st':=ASt.mk [(0,.ptr 0 [PS.fld 1]),(2,iv (m:Int)),(4,.ptr 1 []),(11,aInts c.new),(12,iv (↑(c.new.length):Int)),(13,iv (↑(x0.1):Int)),(58,bv (decide (((WayS.mk frm (upd2 x0.2 m x0.1 (seeOne c x0.1 (x0.2 m x0.1)))).whn m x0.1).hi < ((WayS.mk frm (upd2 x0.2 m x0.1 (seeOne c x0.1 (x0.2 m x0.1)))).whn m x0.1).lo)))] [(0,.cells 107 (cWay (WayS.mk frm (upd2 x0.2 m x0.1 (seeOne c x0.1 (x0.2 m x0.1)))))),(1,.cells 32 (cFnd c))] 10345) ⟨tv,tv,tv,⟨hp.1,(o12 hp x0 hx0 h1 h2),tv⟩,tv,tv,tv,⟨hp.1,(o13 hp x0 hx0 h1 h2),tv⟩,tv,tv⟩ ?_
   refine swp_cond (decide (((WayS.mk frm (upd2 x0.2 m x0.1 (seeOne c x0.1 (x0.2 m x0.1)))).whn m x0.1).hi < ((WayS.mk frm (upd2 x0.2 m x0.1 (seeOne c x0.1 (x0.2 m x0.1)))).whn m x0.1).lo)) (by kernel_rfl) (fun h7 => ?_) (fun h7 => ?_)
   ·refine swp_seq ?_
    refine sQ (kt:=[6]) (kh:=[0]) (q:=True/\True) (st':=ASt.mk [(6,bv false)] [(0,.cells 107 (cWay (WayS.mk frm (upd2 x0.2 m x0.1 (seeOne c x0.1 (x0.2 m x0.1))))))] 10353) ⟨tv,tv⟩ ?_
    refine swp_ret ?_
    exact ret_p (cWay (WayS.mk frm (upd2 x0.2 m x0.1 (seeOne c x0.1 (x0.2 m x0.1))))) ((True/\True)/\(zN (bv false) (bv (see c m f).1))/\T3) (by kernel_rfl) (by kernel_rfl) ⟨⟨tv,tv⟩,⟨(congrArg bv (o14 hp x0 hx0 h1 h2 h7)),rfl⟩,rfl,rfl,rfl⟩ (o15 hp x0 hx0 h1 h2 h7)
   ·refine swp_skip ?_
    refine sQ (kt:=[0,2,4,11,12,13]) (kh:=[0,1]) (q:=inI ((↑(x0.1):Int) + 1)/\True/\True) (st':=ASt.mk [(0,.ptr 0 [PS.fld 1]),(2,iv (m:Int)),(4,.ptr 1 []),(11,aInts c.new),(12,iv (↑(c.new.length):Int)),(13,iv ((↑(x0.1):Int) + 1))] [(0,.cells 107 (cWay (WayS.mk frm (upd2 x0.2 m x0.1 (seeOne c x0.1 (x0.2 m x0.1)))))),(1,.cells 32 (cFnd c))] 10361) ⟨(o16 hp x0 hx0 h1 h2 h7),tv,tv⟩ ?_
    exact loop_next (z139_1 b frm f c m) x0 (ent_p hE [] [(0,.same 0),(1,.same 1)] [2,11,12] [1,0] (((zE (some (Src.same 0))/\zE [PS.fld 1])/\(zT (iv (m:Int)))/\(zP 1)/\(zT (aInts c.new))/\(zT (iv (↑(c.new.length):Int)))/\(zN (iv ((↑(x0.1):Int) + 1)) (iv (↑(x0.1 + 1):Int)))/\True)/\((zT (OB.cells 32 (cFnd c)))/\(zT (OB.cells 107 (cWay (WayS.mk frm (upd2 x0.2 m x0.1 (seeOne c x0.1 (x0.2 m x0.1)))))))/\True)/\T2) (by kernel_rfl) (by kernel_rfl) ⟨⟨⟨rfl,rfl⟩,⟨rfl,rfl⟩,⟨rfl,rfl⟩,⟨rfl,rfl⟩,⟨rfl,rfl⟩,⟨(congrArg iv (o17 hp x0 hx0 h1 h2 h7)),rfl⟩,tv⟩,⟨⟨rfl,rfl⟩,⟨rfl,rfl⟩,tv⟩,rfl,rfl⟩) (o18 hp x0 hx0 h1 h2 h7) (o19 hp x0 hx0 h1 h2 h7)
  ·refine swp_seq ?_
   refine sQ (kt:=[0,2,4,11,12,13,9,38]) (kh:=[0,1]) (q:=tn 2) (st':=ASt.mk [(0,.ptr 0 [PS.fld 1]),(2,iv (m:Int)),(4,.ptr 1 []),(11,aInts c.new),(12,iv (↑(c.new.length):Int)),(13,iv (↑(x0.1):Int)),(9,.ptr 0 [PS.fld 1,PS.idx m 6,PS.idx x0.1 2]),(38,bv (decide (c.new.getD x0.1 0=1)))] [(0,.cells 107 (cWay (WayS.mk frm x0.2))),(1,.cells 32 (cFnd c))] 10193) (tp 2) ?_
   refine swp_cond (decide (c.new.getD x0.1 0=1)) (by kernel_rfl) (fun h8 => ?_) (fun h8 => ?_)
   ·refine sQ (kt:=[0,2,4,11,12,13,9]) (kh:=[0,1]) (q:=True/\True/\True/\True/\(m < 3/\x0.1 < 3/\True)/\True/\True/\True/\True/\True/\(m < 3/\x0.1 < 3/\True)/\True) (st':=ASt.mk [(0,.ptr 0 [PS.fld 1]),(2,iv (m:Int)),(4,.ptr 1 []),(11,aInts c.new),(12,iv (↑(c.new.length):Int)),(13,iv (↑(x0.1):Int)),(9,.ptr 0 [PS.fld 1,PS.idx m 6,PS.idx x0.1 2])] [(0,.cells 107 [aInts frm,.arr 6 3 fun (j:Nat)=>Decidable.rec (fun (h:¬j=m)=>[.arr 2 3 fun (p:Nat)=>cSpan ((WayS.mk frm x0.2).whn j p)]) (fun (h:j=m)=>[.arr 2 3 fun (j:Nat)=>if j=x0.1 then [iv ((WayS.mk frm x0.2).whn m x0.1).lo] ++ ([iv (min ((WayS.mk frm x0.2).whn m x0.1).hi c.minute)] ++ []) else cSpan ((WayS.mk frm x0.2).whn m j)]) (instDecidableEqNat j m)]),(1,.cells 32 (cFnd c))] 10281) ⟨tv,tv,tv,tv,⟨hp.1,(o20 hp x0 hx0 h1 h2 h8),tv⟩,tv,tv,tv,tv,tv,⟨hp.1,(o21 hp x0 hx0 h1 h2 h8),tv⟩,tv⟩ ?_
    refine swp_seq ?_
    refine swp_ent (ent_p (st2:=ASt.mk [(0,AV.ptr 0 [PS.fld 1]),(2,iv (m:Int)),(4,AV.ptr 1 []),(11,aInts c.new),(12,iv (↑(c.new.length):Int)),(13,iv (↑(x0.1):Int)),(9,AV.ptr 0 [PS.fld 1,PS.idx m 6,PS.idx x0.1 2])] [(0,OB.cells 107 (cWay (WayS.mk frm (upd2 x0.2 m x0.1 (seeOne c x0.1 (x0.2 m x0.1)))))),(1,OB.cells 32 (cFnd c))] 10281) hE [] [(0,.same 0),(1,.same 1)] [2,11,12,13] [1] (((zE (some (Src.same 0))/\zE [PS.fld 1])/\(zT (iv (m:Int)))/\(zP 1)/\(zT (aInts c.new))/\(zT (iv (↑(c.new.length):Int)))/\(zT (iv (↑(x0.1):Int)))/\(zE (some (Src.same 0))/\zE [PS.fld 1,PS.idx m 6,PS.idx x0.1 2])/\True)/\((107=107/\((1=1/\frm.length=frm.length /\ ∀ (i9:Nat),i9 < frm.length -> [iv (frm.getD i9 0)] = [iv (frm.getD i9 0)])/\(6=6/\3=3 /\ ∀ (i11:Nat),i11 < 3->Decidable.rec (fun (h:¬i11=m)=>[AV.arr 2 3 fun (p:Nat)=>cSpan ((WayS.mk frm x0.2).whn i11 p)]) (fun (h:i11=m)=>[AV.arr 2 3 fun (j:Nat)=>if j=x0.1 then [iv ((WayS.mk frm x0.2).whn m x0.1).lo] ++ ([iv (min ((WayS.mk frm x0.2).whn m x0.1).hi c.minute)] ++ []) else cSpan ((WayS.mk frm x0.2).whn m j)]) (instDecidableEqNat i11 m) = [AV.arr 2 3 fun (p:Nat)=>cSpan ((WayS.mk frm (upd2 x0.2 m x0.1 (seeOne c x0.1 (x0.2 m x0.1)))).whn i11 p)])/\True)/\true=true)/\(zT (OB.cells 32 (cFnd c)))/\True)/\T2) (by kernel_rfl) (by kernel_rfl) ⟨⟨⟨rfl,rfl⟩,⟨rfl,rfl⟩,⟨rfl,rfl⟩,⟨rfl,rfl⟩,⟨rfl,rfl⟩,⟨rfl,rfl⟩,⟨rfl,rfl⟩,tv⟩,⟨⟨rfl,⟨⟨rfl,rfl,(fun i9=>(fun h10=>rfl))⟩,⟨rfl,rfl,(fun i11=>(fun h12=>(o22 hp x0 hx0 h1 h2 h8 i11 h12)))⟩,tv⟩,rfl⟩,⟨rfl,rfl⟩,tv⟩,rfl,rfl⟩) ?_
    refine sQ (kt:=[0,2,4,11,12,13,58]) (kh:=[0,1]) (q:=True/\True/\True/\(m < 3/\x0.1 < 3/\True)/\True/\True/\True/\(m < 3/\x0.1 < 3/\True)/\True/\True) (st':=ASt.mk [(0,.ptr 0 [PS.fld 1]),(2,iv (m:Int)),(4,.ptr 1 []),(11,aInts c.new),(12,iv (↑(c.new.length):Int)),(13,iv (↑(x0.1):Int)),(58,bv (decide (((WayS.mk frm (upd2 x0.2 m x0.1 (seeOne c x0.1 (x0.2 m x0.1)))).whn m x0.1).hi < ((WayS.mk frm (upd2 x0.2 m x0.1 (seeOne c x0.1 (x0.2 m x0.1)))).whn m x0.1).lo)))] [(0,.cells 107 (cWay (WayS.mk frm (upd2 x0.2 m x0.1 (seeOne c x0.1 (x0.2 m x0.1)))))),(1,.cells 32 (cFnd c))] 10353) ⟨tv,tv,tv,⟨hp.1,(o23 hp x0 hx0 h1 h2 h8),tv⟩,tv,tv,tv,⟨hp.1,(o24 hp x0 hx0 h1 h2 h8),tv⟩,tv,tv⟩ ?_
    refine swp_cond (decide (((WayS.mk frm (upd2 x0.2 m x0.1 (seeOne c x0.1 (x0.2 m x0.1)))).whn m x0.1).hi < ((WayS.mk frm (upd2 x0.2 m x0.1 (seeOne c x0.1 (x0.2 m x0.1)))).whn m x0.1).lo)) (by kernel_rfl) (fun h13 => ?_) (fun h13 => ?_)
    ·refine swp_seq ?_
     refine sQ (kt:=[6]) (kh:=[0]) (q:=True/\True) (st':=ASt.mk [(6,bv false)] [(0,.cells 107 (cWay (WayS.mk frm (upd2 x0.2 m x0.1 (seeOne c x0.1 (x0.2 m x0.1))))))] 10361) ⟨tv,tv⟩ ?_
     refine swp_ret ?_
     exact ret_p (cWay (WayS.mk frm (upd2 x0.2 m x0.1 (seeOne c x0.1 (x0.2 m x0.1))))) ((True/\True)/\(zN (bv false) (bv (see c m f).1))/\T3) (by kernel_rfl) (by kernel_rfl) ⟨⟨tv,tv⟩,⟨(congrArg bv (o25 hp x0 hx0 h1 h2 h8 h13)),rfl⟩,rfl,rfl,rfl⟩ (o26 hp x0 hx0 h1 h2 h8 h13)
    ·refine swp_skip ?_
     refine sQ (kt:=[0,2,4,11,12,13]) (kh:=[0,1]) (q:=inI ((↑(x0.1):Int) + 1)/\True/\True) (st':=ASt.mk [(0,.ptr 0 [PS.fld 1]),(2,iv (m:Int)),(4,.ptr 1 []),(11,aInts c.new),(12,iv (↑(c.new.length):Int)),(13,iv ((↑(x0.1):Int) + 1))] [(0,.cells 107 (cWay (WayS.mk frm (upd2 x0.2 m x0.1 (seeOne c x0.1 (x0.2 m x0.1)))))),(1,.cells 32 (cFnd c))] 10369) ⟨(o27 hp x0 hx0 h1 h2 h8 h13),tv,tv⟩ ?_
     exact loop_next (z139_1 b frm f c m) x0 (ent_p hE [] [(0,.same 0),(1,.same 1)] [2,11,12] [1,0] (((zE (some (Src.same 0))/\zE [PS.fld 1])/\(zT (iv (m:Int)))/\(zP 1)/\(zT (aInts c.new))/\(zT (iv (↑(c.new.length):Int)))/\(zN (iv ((↑(x0.1):Int) + 1)) (iv (↑(x0.1 + 1):Int)))/\True)/\((zT (OB.cells 32 (cFnd c)))/\(zT (OB.cells 107 (cWay (WayS.mk frm (upd2 x0.2 m x0.1 (seeOne c x0.1 (x0.2 m x0.1)))))))/\True)/\T2) (by kernel_rfl) (by kernel_rfl) ⟨⟨⟨rfl,rfl⟩,⟨rfl,rfl⟩,⟨rfl,rfl⟩,⟨rfl,rfl⟩,⟨rfl,rfl⟩,⟨(congrArg iv (o28 hp x0 hx0 h1 h2 h8 h13)),rfl⟩,tv⟩,⟨⟨rfl,rfl⟩,⟨rfl,rfl⟩,tv⟩,rfl,rfl⟩) (o29 hp x0 hx0 h1 h2 h8 h13) (o30 hp x0 hx0 h1 h2 h8 h13)
   ·refine swp_skip (swp_seq ?_)
    refine swp_ent (ent_p (st2:=ASt.mk [(0,AV.ptr 0 [PS.fld 1]),(2,iv (m:Int)),(4,AV.ptr 1 []),(11,aInts c.new),(12,iv (↑(c.new.length):Int)),(13,iv (↑(x0.1):Int)),(9,AV.ptr 0 [PS.fld 1,PS.idx m 6,PS.idx x0.1 2]),(38,bv (decide (c.new.getD x0.1 0=1)))] [(0,OB.cells 107 (cWay (WayS.mk frm (upd2 x0.2 m x0.1 (seeOne c x0.1 (x0.2 m x0.1)))))),(1,OB.cells 32 (cFnd c))] 10193) hE [] [(0,.same 0),(1,.same 1)] [2,11,12,13,38] [1] (((zE (some (Src.same 0))/\zE [PS.fld 1])/\(zT (iv (m:Int)))/\(zP 1)/\(zT (aInts c.new))/\(zT (iv (↑(c.new.length):Int)))/\(zT (iv (↑(x0.1):Int)))/\(zE (some (Src.same 0))/\zE [PS.fld 1,PS.idx m 6,PS.idx x0.1 2])/\(zT (bv (decide (c.new.getD x0.1 0=1))))/\True)/\((107=107/\((1=1/\frm.length=frm.length /\ ∀ (i14:Nat),i14 < frm.length -> [iv (frm.getD i14 0)] = [iv (frm.getD i14 0)])/\(6=6/\3=3 /\ ∀ (i16:Nat),i16 < 3 -> [AV.arr 2 3 fun (p:Nat)=>cSpan ((WayS.mk frm x0.2).whn i16 p)] = [AV.arr 2 3 fun (p:Nat)=>cSpan ((WayS.mk frm (upd2 x0.2 m x0.1 (seeOne c x0.1 (x0.2 m x0.1)))).whn i16 p)])/\True)/\true=true)/\(zT (OB.cells 32 (cFnd c)))/\True)/\T2) (by kernel_rfl) (by kernel_rfl) ⟨⟨⟨rfl,rfl⟩,⟨rfl,rfl⟩,⟨rfl,rfl⟩,⟨rfl,rfl⟩,⟨rfl,rfl⟩,⟨rfl,rfl⟩,⟨rfl,rfl⟩,⟨rfl,rfl⟩,tv⟩,⟨⟨rfl,⟨⟨rfl,rfl,(fun i14=>(fun h15=>rfl))⟩,⟨rfl,rfl,(fun i16=>(fun h17=>(o31 hp x0 hx0 h1 h2 h8 i16 h17)))⟩,tv⟩,rfl⟩,⟨rfl,rfl⟩,tv⟩,rfl,rfl⟩) ?_
    refine sQ (kt:=[0,2,4,11,12,13,58]) (kh:=[0,1]) (q:=True/\True/\True/\(m < 3/\x0.1 < 3/\True)/\True/\True/\True/\(m < 3/\x0.1 < 3/\True)/\True/\True) (st':=ASt.mk [(0,.ptr 0 [PS.fld 1]),(2,iv (m:Int)),(4,.ptr 1 []),(11,aInts c.new),(12,iv (↑(c.new.length):Int)),(13,iv (↑(x0.1):Int)),(58,bv (decide (((WayS.mk frm (upd2 x0.2 m x0.1 (seeOne c x0.1 (x0.2 m x0.1)))).whn m x0.1).hi < ((WayS.mk frm (upd2 x0.2 m x0.1 (seeOne c x0.1 (x0.2 m x0.1)))).whn m x0.1).lo)))] [(0,.cells 107 (cWay (WayS.mk frm (upd2 x0.2 m x0.1 (seeOne c x0.1 (x0.2 m x0.1)))))),(1,.cells 32 (cFnd c))] 10265) ⟨tv,tv,tv,⟨hp.1,(o32 hp x0 hx0 h1 h2 h8),tv⟩,tv,tv,tv,⟨hp.1,(o33 hp x0 hx0 h1 h2 h8),tv⟩,tv,tv⟩ ?_
    refine swp_cond (decide (((WayS.mk frm (upd2 x0.2 m x0.1 (seeOne c x0.1 (x0.2 m x0.1)))).whn m x0.1).hi < ((WayS.mk frm (upd2 x0.2 m x0.1 (seeOne c x0.1 (x0.2 m x0.1)))).whn m x0.1).lo)) (by kernel_rfl) (fun h18 => ?_) (fun h18 => ?_)
    ·refine swp_seq ?_
     refine sQ (kt:=[6]) (kh:=[0]) (q:=True/\True) (st':=ASt.mk [(6,bv false)] [(0,.cells 107 (cWay (WayS.mk frm (upd2 x0.2 m x0.1 (seeOne c x0.1 (x0.2 m x0.1))))))] 10273) ⟨tv,tv⟩ ?_
     refine swp_ret ?_
     exact ret_p (cWay (WayS.mk frm (upd2 x0.2 m x0.1 (seeOne c x0.1 (x0.2 m x0.1))))) ((True/\True)/\(zN (bv false) (bv (see c m f).1))/\T3) (by kernel_rfl) (by kernel_rfl) ⟨⟨tv,tv⟩,⟨(congrArg bv (o34 hp x0 hx0 h1 h2 h8 h18)),rfl⟩,rfl,rfl,rfl⟩ (o35 hp x0 hx0 h1 h2 h8 h18)
    ·refine swp_skip ?_
     refine sQ (kt:=[0,2,4,11,12,13]) (kh:=[0,1]) (q:=inI ((↑(x0.1):Int) + 1)/\True/\True) (st':=ASt.mk [(0,.ptr 0 [PS.fld 1]),(2,iv (m:Int)),(4,.ptr 1 []),(11,aInts c.new),(12,iv (↑(c.new.length):Int)),(13,iv ((↑(x0.1):Int) + 1))] [(0,.cells 107 (cWay (WayS.mk frm (upd2 x0.2 m x0.1 (seeOne c x0.1 (x0.2 m x0.1)))))),(1,.cells 32 (cFnd c))] 10281) ⟨(o36 hp x0 hx0 h1 h2 h8 h18),tv,tv⟩ ?_
     exact loop_next (z139_1 b frm f c m) x0 (ent_p hE [] [(0,.same 0),(1,.same 1)] [2,11,12] [1,0] (((zE (some (Src.same 0))/\zE [PS.fld 1])/\(zT (iv (m:Int)))/\(zP 1)/\(zT (aInts c.new))/\(zT (iv (↑(c.new.length):Int)))/\(zN (iv ((↑(x0.1):Int) + 1)) (iv (↑(x0.1 + 1):Int)))/\True)/\((zT (OB.cells 32 (cFnd c)))/\(zT (OB.cells 107 (cWay (WayS.mk frm (upd2 x0.2 m x0.1 (seeOne c x0.1 (x0.2 m x0.1)))))))/\True)/\T2) (by kernel_rfl) (by kernel_rfl) ⟨⟨⟨rfl,rfl⟩,⟨rfl,rfl⟩,⟨rfl,rfl⟩,⟨rfl,rfl⟩,⟨rfl,rfl⟩,⟨(congrArg iv (o37 hp x0 hx0 h1 h2 h8 h18)),rfl⟩,tv⟩,⟨⟨rfl,rfl⟩,⟨rfl,rfl⟩,tv⟩,rfl,rfl⟩) (o38 hp x0 hx0 h1 h2 h8 h18) (o39 hp x0 hx0 h1 h2 h8 h18)
 ·refine swp_exit (swp_seq ?_)
  refine sQ (kt:=[6]) (kh:=[0]) (q:=True/\True) (st':=ASt.mk [(6,bv true)] [(0,.cells 107 (cWay (WayS.mk frm x0.2)))] 10065) ⟨tv,tv⟩ ?_
  refine swp_ret ?_
  exact ret_p (cWay (WayS.mk frm x0.2)) ((True/\True)/\(zN (bv true) (bv (see c m f).1))/\T3) (by kernel_rfl) (by kernel_rfl) ⟨⟨tv,tv⟩,⟨(congrArg bv (o40 hp x0 hx0 h1)),rfl⟩,rfl,rfl,rfl⟩ (o41 hp x0 hx0 h1)
theorem arr_upd (f:Nat->Nat->Span) (m p:Nat) (s:Span) (g:Nat->List AV) (i:Nat) (hg:∀ j,g j=if j=p then cSpan s else cSpan (f m j)) :
  (if i=m then [AV.arr 2 3 g] else [AV.arr 2 3 fun q=>cSpan (f i q)]) = [AV.arr 2 3 fun q=>cSpan (upd2 f m p s i q)]:=by
 split
 ·rename_i e
  subst e
  refine congrArg (fun g=>[AV.arr 2 3 g]) (funext fun j => ?_)
  rw [hg]
  simp only [upd2,if_true]
  split <;> rfl
 ·rename_i e
  refine congrArg (fun g=>[AV.arr 2 3 g]) (funext fun j => ?_)
  simp only [upd2,if_neg e]
theorem t139 (b:Nat) (frm:List Int) (f:Nat->Nat->Span) (c:Fnd) (m:Nat):Triple Try.prog 139 (s139 b frm f c m):=by
 apply w139
 case o1=>intro _; exact ⟨Nat.zero_le _,rfl⟩
 case o11 =>
  intro hp x hx hl h i hi
  simp only [decide_eq_true_eq] at h
  exact arr_upd x.2 m x.1 _ _ i (fun j=>by simp only [seeOne,h,if_true]; rfl)
 case o22 =>
  intro hp x hx hl h0 h i hi
  simp only [decide_eq_true_eq,decide_eq_false_iff_not] at h h0
  exact arr_upd x.2 m x.1 _ _ i (fun j=>by simp only [seeOne,h]; rfl)
 case o31 =>
  intro hp x hx hl h0 h i hi
  simp only [decide_eq_false_iff_not] at h h0
  have:seeOne c x.1 (x.2 m x.1)=x.2 m x.1:=by simp only [seeOne,if_neg h0,if_neg h]
  rw [this,upd2_id]
 case o14=>intro hp x hx hl _ h; simp only [decide_eq_true_eq] at hl h; rw [see_stop hx.2 (by omega) h]
 case o15=>intro hp x hx hl _ h; simp only [decide_eq_true_eq] at hl h; rw [see_stop hx.2 (by omega) h]
 case o18=>intro hp x hx hl _ h; simp only [decide_eq_true_eq,decide_eq_false_iff_not] at hl h; exact ⟨by show x.1 + 1<=_; omega,see_go hx.2 (by omega) h⟩
 case o25=>intro hp x hx hl _ _ h; simp only [decide_eq_true_eq] at hl h; rw [see_stop hx.2 (by omega) h]
 case o26=>intro hp x hx hl _ _ h; simp only [decide_eq_true_eq] at hl h; rw [see_stop hx.2 (by omega) h]
 case o29=>intro hp x hx hl _ _ h; simp only [decide_eq_true_eq,decide_eq_false_iff_not] at hl h; exact ⟨by show x.1 + 1<=_; omega,see_go hx.2 (by omega) h⟩
 case o34=>intro hp x hx hl _ _ h; simp only [decide_eq_true_eq] at hl h; rw [see_stop hx.2 (by omega) h]
 case o35=>intro hp x hx hl _ _ h; simp only [decide_eq_true_eq] at hl h; rw [see_stop hx.2 (by omega) h]
 case o38=>intro hp x hx hl _ _ h; simp only [decide_eq_true_eq,decide_eq_false_iff_not] at hl h; exact ⟨by show x.1 + 1<=_; omega,see_go hx.2 (by omega) h⟩
 case o40=>intro hp x hx hl; simp only [decide_eq_false_iff_not] at hl; rw [see_end hx.2 (by omega)]
 case o41=>intro hp x hx hl; simp only [decide_eq_false_iff_not] at hl; rw [see_end hx.2 (by omega)]
 all_goals ((repeat intro _) <;> (try simp only [v0,v1,v2,v3,v4,v5,v6,v7,v8,v9,inI,fits,Go.Sh.small] at *) <;> first | (exact rfl) | omega | exact vz | (simp_all; done) | (simp_all; omega))
end Go.Ab
namespace Go.Sh
instance:Inhabited WayS:=⟨⟨[],fun _ _=>default⟩⟩
def firstWhn (r:Run) (n:Nat):Nat->Nat->Span:=fun m p=>if m < n then (if p < (mach r m).changes.length then chg (mach r m) p else ⟨0,0⟩) else ⟨0,0⟩
def one (r:Run) (n:Nat) (w:WayS) (m:Int):Option WayS:=if (see (fnd r n) m.toNat w.whn).1 then some ⟨w.frm ++ [m],(see (fnd r n) m.toNat w.whn).2⟩ else none
def step (r:Run) (n:Nat) (w:WayS):List WayS:=(fnd r n).frm.filterMap (one r n w)
def waysTo (r:Run):Nat->List WayS
 | 0=>[⟨[],firstWhn r r.machines.length⟩]
 | n + 1=>(waysTo r n).flatMap (step r n)
def waysOf (r:Run):List WayS:=waysTo r r.found.length
def acc2 (r:Run) (n i:Nat):List WayS:=((waysTo r n).take i).flatMap (step r n)
def acc3 (r:Run) (n i k:Nat):List WayS:=acc2 r n i ++ ((fnd r n).frm.take k).filterMap (one r n ((waysTo r n).getD i default))
theorem acc3_zero (r:Run) (n i:Nat):acc3 r n i 0=acc2 r n i:=by simp [acc3]
theorem acc3_some {r:Run} {n i k:Nat} (hk:k < (fnd r n).frm.length) (h:(see (fnd r n) ((fnd r n).frm.getD k 0).toNat ((waysTo r n).getD i default).whn).1=true) :
  acc3 r n i (k + 1)=acc3 r n i k ++ [⟨((waysTo r n).getD i default).frm ++ [(fnd r n).frm.getD k 0],(see (fnd r n) ((fnd r n).frm.getD k 0).toNat ((waysTo r n).getD i default).whn).2⟩]:=by
 unfold acc3
 rw [Go.Ab.take_succ _ 0 hk,List.filterMap_append,← List.append_assoc]
 congr 1
 simp only [List.filterMap_cons,one,h,if_true,List.filterMap_nil]
theorem acc3_none {r:Run} {n i k:Nat} (hk:k < (fnd r n).frm.length) (h:(see (fnd r n) ((fnd r n).frm.getD k 0).toNat ((waysTo r n).getD i default).whn).1=false) :
  acc3 r n i (k + 1)=acc3 r n i k:=by
 unfold acc3
 rw [Go.Ab.take_succ _ 0 hk,List.filterMap_append]
 simp only [List.filterMap_cons,one,h,Bool.false_eq_true,if_false,List.filterMap_nil,List.append_nil]
theorem acc3_full {r:Run} {n i k:Nat} (hk:(fnd r n).frm.length<=k) (hi:i < (waysTo r n).length):acc3 r n i k=acc2 r n (i + 1):=by
 unfold acc3 acc2
 rw [List.take_of_length_le hk,Go.Ab.take_succ _ default hi,List.flatMap_append]
 simp [step]
theorem acc2_full {r:Run} {n i:Nat} (hi:(waysTo r n).length<=i):acc2 r n i=waysTo r (n + 1):=by
 unfold acc2
 rw [List.take_of_length_le hi,waysTo]
theorem step_len {r:Run} (ok:Ok r) {n:Nat} (h:n < r.found.length) (w:WayS):(step r n w).length<=3:=by
 have h1:=frm_len ok h
 have h2:=List.length_filterMap_le (one r n w) (fnd r n).frm
 unfold step; omega
theorem waysTo_len {r:Run} (ok:Ok r):∀ n,n<=r.found.length->(waysTo r n).length<=3 ^ n:=by
 intro n
 induction n with
 | zero=>intro _; exact Nat.le_refl 1
 | succ n ih =>
  intro h
  have h1:=ih (by omega)
  rw [waysTo,Nat.pow_succ]
  exact Nat.le_trans (Go.Ab.flatMap_len (step r n) 3 _ (fun w _=>step_len ok (by omega) w)) (Nat.mul_le_mul_right 3 h1)
theorem waysTo_bound {r:Run} (ok:Ok r) {n:Nat} (h:n<=r.found.length):(waysTo r n).length<=729:=by
 have h2:=ok.found
 exact Nat.le_trans (waysTo_len ok n h) (pow3 (by omega))
theorem acc2_len {r:Run} (ok:Ok r) {n:Nat} (h:n < r.found.length) (i:Nat):(acc2 r n i).length<=2187:=by
 unfold acc2
 have h1:=Go.Ab.flatMap_len (step r n) 3 ((waysTo r n).take i) (fun w _=>step_len ok h w)
 have h2:=waysTo_bound ok (n:=n) (by omega)
 rw [List.length_take] at h1
 have h3:min i (waysTo r n).length * 3<=729 * 3:=Nat.mul_le_mul_right 3 (by omega)
 omega
theorem acc3_len {r:Run} (ok:Ok r) {n:Nat} (h:n < r.found.length) (i k:Nat):(acc3 r n i k).length<=2190:=by
 unfold acc3
 have h1:=acc2_len ok h i
 have h2:=List.length_filterMap_le (one r n ((waysTo r n).getD i default)) ((fnd r n).frm.take k)
 have h3:=frm_len ok h
 rw [List.length_take] at h2
 rw [List.length_append]; omega
theorem waysTo_frm {r:Run}:∀ n w,w ∈ waysTo r n->w.frm.length=n:=by
 intro n
 induction n with
 | zero=>intro w h; simp [waysTo] at h; rw [h]; rfl
 | succ n ih =>
  intro w h
  rw [waysTo,List.mem_flatMap] at h
  obtain ⟨v,hv,h⟩:=h
  unfold step at h
  rw [List.mem_filterMap] at h
  obtain ⟨m,_,h⟩:=h
  unfold one at h
  split at h
  ·cases h
   show (v.frm ++ [m]).length=n + 1
   rw [List.length_append,ih v hv]; rfl
  ·cases h
theorem firstWhn_succ (r:Run) (x:Nat) (s:Nat->Nat->Span) (h:s=firstWhn r x) (i p:Nat) (hi:i=x):firstWhn r (x + 1) i p=if p < (mach r x).changes.length then chg (mach r x) p else s x p:=by
 subst hi; subst h
 unfold firstWhn
 rw [if_pos (by omega),if_neg (Nat.lt_irrefl i)]
theorem firstWhn_other (r:Run) (x i p:Nat) (hi:i ≠ x):firstWhn r (x + 1) i p=firstWhn r x i p:=by
 unfold firstWhn
 by_cases h:i < x
 ·rw [if_pos h,if_pos (by omega)]
 ·rw [if_neg h,if_neg (by omega)]
end Go.Sh
namespace Go.En
open Go Go.Ab Go.Sh
def aWays (l:List WayS):AV := .sl 19 l.length (fun i=>cWay (l.getD i default))
end Go.En
namespace Go.Ab
open Go Go.RowKit Go.Proofs Go.Sh Go.En
def s116 (r:Run):CallSpec:={ args:=[vRun r],res:=aWays (waysOf r),pre:=okRun r=true }
def h116a (r:Run):Hint:={ X:=Nat,M:=fun i=>[(19,iv i)],H:=fun i=>[(24,.cells 107 (cWay ⟨[],firstWhn r i⟩))],I:=fun i=>i<=r.machines.length,mu:=fun i=>r.machines.length - i,x0:=(0:Nat),nx:=fun i=>i + 1 }
def h116b (r:Run):Hint:={ X:=Nat,M:=fun i=>[(37,iv i),(6,.vec 5000)],H:=fun i=>[(5000,.vec 107 19 (waysTo r i).length (fun j=>cWay ((waysTo r i).getD j default)))],I:=fun i=>i<=r.found.length,mu:=fun i=>r.found.length - i,x0:=(0:Nat),nx:=fun i=>i + 1 }
def h116c (r:Run) (n:Nat):Hint:={ X:=Nat,M:=fun i=>[(43,iv i),(9,.vec 5001)],H:=fun i=>[(5001,.vec 107 19 (acc2 r n i).length (fun j=>cWay ((acc2 r n i).getD j default)))],I:=fun i=>i<=(waysTo r n).length,mu:=fun i=>(waysTo r n).length - i,x0:=(0:Nat),nx:=fun i=>i + 1 }
def h116d (r:Run) (n i:Nat):Hint:={ X:=Nat,M:=fun k=>[(50,iv k),(9,.vec 5002)],H:=fun k=>[(5002,.vec 107 19 (acc3 r n i k).length (fun j=>cWay ((acc3 r n i k).getD j default)))],I:=fun k=>k<=(fnd r n).frm.length,mu:=fun k=>(fnd r n).frm.length - k,x0:=(0:Nat),nx:=fun k=>k + 1 }
def c116 (r:Run) (n i k:Nat):CallSpec:=s139 40432 (((waysTo r n).getD i default).frm ++ [(fnd r n).frm.getD k 0]) ((waysTo r n).getD i default).whn (fnd r n) ((fnd r n).frm.getD k 0).toNat
end Go.Ab
namespace Go.Ab
open Go Go.RowKit Go.Proofs Go.Sh Go.En
abbrev z116_1 (r:Run) (x8:Nat) (x12:Nat):LoopAnn:=Hint.ann (h116d r x8 x12) [(35,AV.sl 3 r.found.length fun (i:Nat)=>cFnd (fnd r i)),(36,iv (↑(r.found.length):Int)),(37,iv (x8:Int)),(8,AV.ptr 20160 []),(41,AV.vec 5000),(42,iv (↑((waysTo r x8).length):Int)),(43,iv (x12:Int)),(11,AV.ptr 30232 []),(48,aInts (fnd r x8).frm),(49,iv (↑((fnd r x8).frm.length):Int))] [(20160,OB.cells 32 (cFnd (fnd r x8))),(5000,OB.vec 107 19 (waysTo r x8).length fun (j:Nat)=>cWay ((waysTo r x8).getD j default)),(30232,OB.cells 107 (cWay ((waysTo r x8).getD x12 default)))] 40280
abbrev z116_2 (r:Run) (x8:Nat):LoopAnn:=Hint.ann (h116c r x8) [(35,AV.sl 3 r.found.length fun (i:Nat)=>cFnd (fnd r i)),(36,iv (↑(r.found.length):Int)),(37,iv (x8:Int)),(8,AV.ptr 20160 []),(41,AV.vec 5000),(42,iv (↑((waysTo r x8).length):Int))] [(20160,OB.cells 32 (cFnd (fnd r x8))),(5000,OB.vec 107 19 (waysTo r x8).length fun (j:Nat)=>cWay ((waysTo r x8).getD j default))] 30208
abbrev z116_3 (r:Run):LoopAnn:=Hint.ann (h116a r) [(1,AV.ptr 0 []),(3,AV.ptr 24 []),(17,AV.sl 2 r.machines.length fun (i:Nat)=>cMach (mach r i)),(18,iv (↑(r.machines.length):Int))] [(0,OB.cells 25 (cRun r))] 10072
abbrev z116_4 (r:Run):LoopAnn:=Hint.ann (h116b r) [(35,AV.sl 3 r.found.length fun (i:Nat)=>cFnd (fnd r i)),(36,iv (↑(r.found.length):Int))] [] 20136
abbrev q116_1 (r:Run) (C:Nat->Prop):Prop:=okRun r=true -> ∀ (x0:Nat),x0<=r.machines.length->decide ((x0:Int) < (↑(r.machines.length):Int))=true->C x0
abbrev q116_2 (r:Run) (C:Nat->Prop):Prop:=okRun r=true -> ∀ (x0:Nat),x0<=r.machines.length->decide ((x0:Int) < (↑(r.machines.length):Int))=false->C x0
abbrev q116_3 (r:Run) (C:Nat->Nat->Prop):Prop:=q116_2 r fun x0 => ∀ (x8:Nat),x8<=r.found.length->decide ((x8:Int) < (↑(r.found.length):Int))=true->C x0 x8
abbrev q116_4 (r:Run) (C:Nat->Nat->Nat->Prop):Prop:=q116_3 r fun x0 x8 => ∀ (x12:Nat),x12<=(waysTo r x8).length->decide ((x12:Int) < (↑((waysTo r x8).length):Int))=true->C x0 x8 x12
abbrev q116_5 (r:Run) (C:Nat->Nat->Nat->Nat->Prop):Prop:=q116_4 r fun x0 x8 x12 => ∀ (x14:Nat),x14<=(fnd r x8).frm.length->decide ((x14:Int) < (↑((fnd r x8).frm.length):Int))=true->C x0 x8 x12 x14
abbrev q116_6 (r:Run) (C:Nat->Nat->Nat->Nat->Prop):Prop:=q116_5 r fun x0 x8 x12 x14=>(see (fnd r x8) ((fnd r x8).frm.getD x14 0).toNat ((waysTo r x8).getD x12 default).whn).1=true->C x0 x8 x12 x14
abbrev q116_7 (r:Run) (C:Nat->Nat->Nat->Nat->Prop):Prop:=q116_5 r fun x0 x8 x12 x14=>(see (fnd r x8) ((fnd r x8).frm.getD x14 0).toNat ((waysTo r x8).getD x12 default).whn).1=false->C x0 x8 x12 x14
abbrev q116_8 (r:Run) (C:Nat->Nat->Nat->Nat->Prop):Prop:=q116_4 r fun x0 x8 x12 => ∀ (x14:Nat),x14<=(fnd r x8).frm.length->decide ((x14:Int) < (↑((fnd r x8).frm.length):Int))=false->C x0 x8 x12 x14
abbrev q116_9 (r:Run) (C:Nat->Nat->Nat->Prop):Prop:=q116_3 r fun x0 x8 => ∀ (x12:Nat),x12<=(waysTo r x8).length->decide ((x12:Int) < (↑((waysTo r x8).length):Int))=false->C x0 x8 x12
theorem w116 (r:Run)
 (o0:okRun r=true->0=(↑0:Int))
 (o1:okRun r=true -> ∀ (i1:Nat),i1 < 3 -> [AV.arr 2 3 fun (x:Nat)=>[iv 0,iv 0]] = [AV.arr 2 3 fun (p:Nat)=>cSpan ((WayS.mk [] (firstWhn r 0)).whn i1 p)])
 (o2:okRun r=true->0<=List.length (Run.machines r))
 (o3:q116_1 r fun x0=>0<=(x0:Int))
 (o4:q116_1 r fun x0=>(x0:Int) < (↑(r.machines.length):Int))
 (o5:q116_1 r fun x0=>0<=(x0:Int))
 (o6:q116_1 r fun x0=>(x0:Int) < (↑3:Int))
 (o7:q116_1 r fun x0=>x0 < 3)
 (o8:q116_1 r fun x0=>x0 < 3)
 (o9:q116_1 r fun x0=>(mach r x0).changes.length<=3)
 (o10:q116_1 r fun x0=>0 < (mach r x0).changes.length)
 (o11:q116_1 r fun x0=>inI ((x0:Int) + 1))
 (o12:q116_1 r fun x0=>(x0:Int) + 1=(↑(x0 + 1):Int))
 (o13:q116_1 r fun x0 => ∀ (i6:Nat),i6 < 3->Decidable.rec (fun (h:¬i6=x0)=>[AV.arr 2 3 fun (p:Nat)=>cSpan ((WayS.mk [] (firstWhn r x0)).whn i6 p)]) (fun (h:i6=x0)=>[AV.arr 2 3 fun (j:Nat)=>if j < (mach r x0).changes.length then [iv ((mach r x0).changes.getD j default).lo,iv ((mach r x0).changes.getD j default).hi] else cSpan ((WayS.mk [] (firstWhn r x0)).whn x0 j)] ++ []) (instDecidableEqNat i6 x0) = [AV.arr 2 3 fun (p:Nat)=>cSpan ((WayS.mk [] (firstWhn r (x0 + 1))).whn i6 p)])
 (o14:q116_1 r fun x0=>x0 + 1<=r.machines.length)
 (o15:q116_1 r fun x0=>r.machines.length - (x0 + 1) < r.machines.length - x0)
 (o16:q116_2 r fun x0=>0=(↑0:Int))
 (o17:q116_2 r fun x0=>1=(waysTo r 0).length)
 (o18:q116_2 r fun x0 => ∀ (i9:Nat),i9 < 1->List.getD [[AV.sl 1 0 fun (i:Nat)=>[iv (List.getD [] i 0)],AV.arr 6 3 fun (m:Nat)=>[AV.arr 2 3 fun (p:Nat)=>cSpan ((WayS.mk [] (firstWhn r x0)).whn m p)]]] i9 (TI.za ti107)=cWay ((waysTo r 0).getD i9 default))
 (o19:q116_2 r fun x0=>0<=r.found.length)
 (o20:q116_3 r fun x0 x8=>0<=(x8:Int))
 (o21:q116_3 r fun x0 x8=>(x8:Int) < (↑(r.found.length):Int))
 (o22:q116_3 r fun x0 x8=>0=(↑0:Int))
 (o23:q116_3 r fun x0 x8=>(acc2 r x8 0).length=0)
 (o24:q116_3 r fun x0 x8=>0<=(waysTo r x8).length)
 (o25:q116_4 r fun x0 x8 x12=>0<=(x12:Int))
 (o26:q116_4 r fun x0 x8 x12=>(x12:Int) < (↑((waysTo r x8).length):Int))
 (o27:q116_4 r fun x0 x8 x12=>x12 < (waysTo r x8).length)
 (o28:q116_4 r fun x0 x8 x12=>0=(↑0:Int))
 (o29:q116_4 r fun x0 x8 x12=>(acc2 r x8 x12).length=(acc3 r x8 x12 0).length)
 (o30:q116_4 r fun x0 x8 x12 => ∀ (i15:Nat),i15 < (acc2 r x8 x12).length->cWay ((acc2 r x8 x12).getD i15 default)=cWay ((acc3 r x8 x12 0).getD i15 default))
 (o31:q116_4 r fun x0 x8 x12=>0<=(fnd r x8).frm.length)
 (o32:q116_5 r fun x0 x8 x12 x14=>0<=(x14:Int))
 (o33:q116_5 r fun x0 x8 x12 x14=>(x14:Int) < (↑((fnd r x8).frm.length):Int))
 (o34:q116_5 r fun x0 x8 x12 x14=>((waysTo r x8).getD x12 default).frm.length + 1<=65536)
 (o35:q116_5 r fun x0 x8 x12 x14=>((waysTo r x8).getD x12 default).frm.length + 1=(((waysTo r x8).getD x12 default).frm ++ [(fnd r x8).frm.getD x14 0]).length)
 (o36:q116_5 r fun x0 x8 x12 x14 => ∀ (i18:Nat),i18 < (((waysTo r x8).getD x12 default).frm ++ [(fnd r x8).frm.getD x14 0]).length->catF ((waysTo r x8).getD x12 default).frm.length (fun (i:Nat)=>[iv (((waysTo r x8).getD x12 default).frm.getD i 0)]) (fun (j:Nat)=>List.getD [[iv ((fnd r x8).frm.getD x14 0)]] j (TI.za ti3)) i18 = [iv ((((waysTo r x8).getD x12 default).frm ++ [(fnd r x8).frm.getD x14 0]).getD i18 0)])
 (o37:q116_5 r fun x0 x8 x12 x14=>(fnd r x8).frm.getD x14 0=(↑(((fnd r x8).frm.getD x14 0).toNat):Int))
 (o38:q116_5 r fun x0 x8 x12 x14=>((fnd r x8).frm.getD x14 0).toNat < 3)
 (o39:q116_5 r fun x0 x8 x12 x14=>(fnd r x8).new.length<=3)
 (o40:q116_5 r fun x0 x8 x12 x14=>0<=(fnd r x8).minute)
 (o41:q116_5 r fun x0 x8 x12 x14=>(fnd r x8).minute<=1000)
 (o42:q116_6 r fun x0 x8 x12 x14=>(acc3 r x8 x12 x14).length + 1<=65536)
 (o43:q116_6 r fun x0 x8 x12 x14=>inI ((x14:Int) + 1))
 (o44:q116_6 r fun x0 x8 x12 x14=>(x14:Int) + 1=(↑(x14 + 1):Int))
 (o45:q116_6 r fun x0 x8 x12 x14=>(acc3 r x8 x12 x14).length + 1=(acc3 r x8 x12 (x14 + 1)).length)
 (o46:q116_6 r fun x0 x8 x12 x14 => ∀ (i24:Nat),i24 < (acc3 r x8 x12 x14).length + 1->catF (acc3 r x8 x12 x14).length (fun (j:Nat)=>cWay ((acc3 r x8 x12 x14).getD j default)) (fun (j:Nat)=>List.getD [[AV.sl 1 (((waysTo r x8).getD x12 default).frm ++ [(fnd r x8).frm.getD x14 0]).length fun (i:Nat)=>[iv ((((waysTo r x8).getD x12 default).frm ++ [(fnd r x8).frm.getD x14 0]).getD i 0)],AV.arr 6 3 fun (m:Nat)=>[AV.arr 2 3 fun (p:Nat)=>cSpan ((WayS.mk (((waysTo r x8).getD x12 default).frm ++ [(fnd r x8).frm.getD x14 0]) (see (fnd r x8) ((fnd r x8).frm.getD x14 0).toNat ((waysTo r x8).getD x12 default).whn).2).whn m p)]]] j (TI.za ti107)) i24=cWay ((acc3 r x8 x12 (x14 + 1)).getD i24 default))
 (o47:q116_6 r fun x0 x8 x12 x14=>x14 + 1<=(fnd r x8).frm.length)
 (o48:q116_6 r fun x0 x8 x12 x14=>(fnd r x8).frm.length - (x14 + 1) < (fnd r x8).frm.length - x14)
 (o49:q116_7 r fun x0 x8 x12 x14=>inI ((x14:Int) + 1))
 (o50:q116_7 r fun x0 x8 x12 x14=>(x14:Int) + 1=(↑(x14 + 1):Int))
 (o51:q116_7 r fun x0 x8 x12 x14=>(acc3 r x8 x12 x14).length=(acc3 r x8 x12 (x14 + 1)).length)
 (o52:q116_7 r fun x0 x8 x12 x14 => ∀ (i26:Nat),i26 < (acc3 r x8 x12 x14).length->cWay ((acc3 r x8 x12 x14).getD i26 default)=cWay ((acc3 r x8 x12 (x14 + 1)).getD i26 default))
 (o53:q116_7 r fun x0 x8 x12 x14=>x14 + 1<=(fnd r x8).frm.length)
 (o54:q116_7 r fun x0 x8 x12 x14=>(fnd r x8).frm.length - (x14 + 1) < (fnd r x8).frm.length - x14)
 (o55:q116_8 r fun x0 x8 x12 x14=>inI ((x12:Int) + 1))
 (o56:q116_8 r fun x0 x8 x12 x14=>(x12:Int) + 1=(↑(x12 + 1):Int))
 (o57:q116_8 r fun x0 x8 x12 x14=>(acc3 r x8 x12 x14).length=(acc2 r x8 (x12 + 1)).length)
 (o58:q116_8 r fun x0 x8 x12 x14 => ∀ (i28:Nat),i28 < (acc3 r x8 x12 x14).length->cWay ((acc3 r x8 x12 x14).getD i28 default)=cWay ((acc2 r x8 (x12 + 1)).getD i28 default))
 (o59:q116_8 r fun x0 x8 x12 x14=>x12 + 1<=(waysTo r x8).length)
 (o60:q116_8 r fun x0 x8 x12 x14=>(waysTo r x8).length - (x12 + 1) < (waysTo r x8).length - x12)
 (o61:q116_9 r fun x0 x8 x12=>inI ((x8:Int) + 1))
 (o62:q116_9 r fun x0 x8 x12=>(x8:Int) + 1=(↑(x8 + 1):Int))
 (o63:q116_9 r fun x0 x8 x12=>(acc2 r x8 x12).length=(waysTo r (x8 + 1)).length)
 (o64:q116_9 r fun x0 x8 x12 => ∀ (i30:Nat),i30 < (acc2 r x8 x12).length->cWay ((acc2 r x8 x12).getD i30 default)=cWay ((waysTo r (x8 + 1)).getD i30 default))
 (o65:q116_9 r fun x0 x8 x12=>x8 + 1<=r.found.length)
 (o66:q116_9 r fun x0 x8 x12=>r.found.length - (x8 + 1) < r.found.length - x8)
 (o67:q116_2 r fun x0 => ∀ (x8:Nat),x8<=r.found.length->decide ((x8:Int) < (↑(r.found.length):Int))=false->(waysTo r x8).length=(waysOf r).length)
 (o68:q116_2 r fun x0 => ∀ (x8:Nat),x8<=r.found.length->decide ((x8:Int) < (↑(r.found.length):Int))=false -> ∀ (i32:Nat),i32 < (waysOf r).length->cWay ((waysTo r x8).getD i32 default)=cWay ((waysOf r).getD i32 default)) :
  Triple Try.prog 116 (s116 r):=by
 refine triple_of Try.func116 rfl Try.call116 T0_ok _ rfl rfl rfl rfl (Nat.le_of_ble_eq_true (by kernel_rfl)) (fun _ _ _ _ h=>h) ?_
 intro hp C hC _ hE
 obtain ⟨P,w0,E0,av,hA⟩:=C
 subst hC
 refine swp_seq ?_
 refine sQ (kt:=[1]) (kh:=[0]) (q:=tn 2) (st':=ASt.mk [(1,.ptr 0 [])] [(0,.cells 25 (cRun r))] 16) (tp 2) ?_
 refine swp_seq ?_
 refine sQ (kt:=[1,3]) (kh:=[0,24]) (q:=tn 3) (st':=ASt.mk [(1,.ptr 0 []),(3,.ptr 24 [])] [(0,.cells 25 (cRun r)),(24,.cells 107 [nilv,.arr 6 3 fun (x:Nat)=>[.arr 2 3 fun (x:Nat)=>[iv 0,iv 0]]])] 40) (tp 3) ?_
 refine swp_seq (swp_seq ?_)
 refine sQ (kt:=[1,3,17,18,19]) (kh:=[0,24]) (q:=tn 4) (st':=ASt.mk [(1,.ptr 0 []),(3,.ptr 24 []),(17,.sl 2 r.machines.length fun (i:Nat)=>cMach (mach r i)),(18,iv (↑(r.machines.length):Int)),(19,iv 0)] [(0,.cells 25 (cRun r)),(24,.cells 107 [nilv,.arr 6 3 fun (x:Nat)=>[.arr 2 3 fun (x:Nat)=>[iv 0,iv 0]]])] 72) (tp 4) ?_
 refine swp_block ?_
 refine swp_loopA (z116_3 r) (eQ hE [] [(0,.same 0),(24,.same 24)] [17,18] [0] (((zP 0)/\(zP 24)/\(zT (AV.sl 2 r.machines.length fun (i:Nat)=>cMach (mach r i)))/\(zT (iv (↑(r.machines.length):Int)))/\(zN (iv 0) (iv (↑0:Int)))/\True)/\((zT (OB.cells 25 (cRun r)))/\(107=107/\(0=0/\(6=6/\3=3 /\ ∀ (i1:Nat),i1 < 3 -> [AV.arr 2 3 fun (x:Nat)=>[iv 0,iv 0]] = [AV.arr 2 3 fun (p:Nat)=>cSpan ((WayS.mk [] (firstWhn r 0)).whn i1 p)])/\True)/\true=true)/\True)/\T2) ⟨⟨⟨rfl,rfl⟩,⟨rfl,rfl⟩,⟨rfl,rfl⟩,⟨rfl,rfl⟩,⟨(congrArg iv (o0 hp)),rfl⟩,tv⟩,⟨⟨rfl,rfl⟩,⟨rfl,⟨rfl,⟨rfl,rfl,(fun i1=>(fun h2=>(o1 hp i1 h2)))⟩,tv⟩,rfl⟩,tv⟩,rfl,rfl⟩) (o2 hp) (fun (x0:Nat) hx0 => ?_)
 refine swp_seq ?_
 refine sQ (kt:=[1,3,17,18,19,20]) (kh:=[0,24]) (q:=True/\True) (st':=ASt.mk [(1,.ptr 0 []),(3,.ptr 24 []),(17,.sl 2 r.machines.length fun (i:Nat)=>cMach (mach r i)),(18,iv (↑(r.machines.length):Int)),(19,iv (x0:Int)),(20,bv (decide ((x0:Int) < (↑(r.machines.length):Int))))] [(0,.cells 25 (cRun r)),(24,.cells 107 (cWay (WayS.mk [] (firstWhn r x0))))] 10080) ⟨tv,tv⟩ ?_
 refine swp_seq ?_
 refine swp_cond (decide ((x0:Int) < (↑(r.machines.length):Int))) (by kernel_rfl) (fun h3 => ?_) (fun h3 => ?_)
 ·refine swp_skip (swp_seq (swp_block (swp_seq ?_)))
  refine sQ (kt:=[1,3,17,18,19,5,4]) (kh:=[0,24,10104]) (q:=True/\(0<=(x0:Int)/\(x0:Int) < (↑(r.machines.length):Int))/\tn 4) (st':=ASt.mk [(1,.ptr 0 []),(3,.ptr 24 []),(17,.sl 2 r.machines.length fun (i:Nat)=>cMach (mach r i)),(18,iv (↑(r.machines.length):Int)),(19,iv (x0:Int)),(5,.ptr 10104 []),(4,iv (x0:Int))] [(0,.cells 25 (cRun r)),(24,.cells 107 (cWay (WayS.mk [] (firstWhn r x0)))),(10104,.cells 42 (cMach (mach r x0)))] 10128) ⟨tv,⟨(o3 hp x0 hx0 h3),(o4 hp x0 hx0 h3)⟩,tp 4⟩ ?_
  refine sQ (kt:=[1,3,17,18,19]) (kh:=[0,24]) (q:=True/\True/\(0<=(x0:Int)/\(x0:Int) < (↑3:Int))/\True/\True/\True/\((x0 < 3/\True)/\(x0 < 3/\True)/\(mach r x0).changes.length<=3/\0 < (mach r x0).changes.length)/\True) (st':=ASt.mk [(1,.ptr 0 []),(3,.ptr 24 []),(17,.sl 2 r.machines.length fun (i:Nat)=>cMach (mach r i)),(18,iv (↑(r.machines.length):Int)),(19,iv (x0:Int))] [(0,.cells 25 (cRun r)),(24,.cells 107 [aInts [],.arr 6 3 fun (j:Nat)=>Decidable.rec (fun (h:¬j=x0)=>[.arr 2 3 fun (p:Nat)=>cSpan ((WayS.mk [] (firstWhn r x0)).whn j p)]) (fun (h:j=x0)=>[.arr 2 3 fun (j:Nat)=>if j < (mach r x0).changes.length then [iv ((mach r x0).changes.getD j default).lo,iv ((mach r x0).changes.getD j default).hi] else cSpan ((WayS.mk [] (firstWhn r x0)).whn x0 j)] ++ []) (instDecidableEqNat j x0)])] 10184) ⟨tv,tv,⟨(o5 hp x0 hx0 h3),(o6 hp x0 hx0 h3)⟩,tv,tv,tv,⟨⟨(o7 hp x0 hx0 h3),tv⟩,⟨(o8 hp x0 hx0 h3),tv⟩,(o9 hp x0 hx0 h3),(o10 hp x0 hx0 h3)⟩,tv⟩ ?_
  refine sQ (kt:=[1,3,17,18,19]) (kh:=[0,24]) (q:=inI ((x0:Int) + 1)/\True/\True) (st':=ASt.mk [(1,.ptr 0 []),(3,.ptr 24 []),(17,.sl 2 r.machines.length fun (i:Nat)=>cMach (mach r i)),(18,iv (↑(r.machines.length):Int)),(19,iv ((x0:Int) + 1))] [(0,.cells 25 (cRun r)),(24,.cells 107 [aInts [],.arr 6 3 fun (j:Nat)=>Decidable.rec (fun (h:¬j=x0)=>[.arr 2 3 fun (p:Nat)=>cSpan ((WayS.mk [] (firstWhn r x0)).whn j p)]) (fun (h:j=x0)=>[.arr 2 3 fun (j:Nat)=>if j < (mach r x0).changes.length then [iv ((mach r x0).changes.getD j default).lo,iv ((mach r x0).changes.getD j default).hi] else cSpan ((WayS.mk [] (firstWhn r x0)).whn x0 j)] ++ []) (instDecidableEqNat j x0)])] 10200) ⟨(o11 hp x0 hx0 h3),tv,tv⟩ ?_
  exact loop_next (z116_3 r) x0 (eQ hE [] [(0,.same 0),(24,.same 24)] [17,18] [0] (((zP 0)/\(zP 24)/\(zT (AV.sl 2 r.machines.length fun (i:Nat)=>cMach (mach r i)))/\(zT (iv (↑(r.machines.length):Int)))/\(zN (iv ((x0:Int) + 1)) (iv (↑(x0 + 1):Int)))/\True)/\((zT (OB.cells 25 (cRun r)))/\(107=107/\((1=1/\0=0 /\ ∀ (i4:Nat),i4 < 0 -> [iv (List.getD [] i4 0)] = [iv (List.getD [] i4 0)])/\(6=6/\3=3 /\ ∀ (i6:Nat),i6 < 3->Decidable.rec (fun (h:¬i6=x0)=>[AV.arr 2 3 fun (p:Nat)=>cSpan ((WayS.mk [] (firstWhn r x0)).whn i6 p)]) (fun (h:i6=x0)=>[AV.arr 2 3 fun (j:Nat)=>if j < (mach r x0).changes.length then [iv ((mach r x0).changes.getD j default).lo,iv ((mach r x0).changes.getD j default).hi] else cSpan ((WayS.mk [] (firstWhn r x0)).whn x0 j)] ++ []) (instDecidableEqNat i6 x0) = [AV.arr 2 3 fun (p:Nat)=>cSpan ((WayS.mk [] (firstWhn r (x0 + 1))).whn i6 p)])/\True)/\true=true)/\True)/\T2) ⟨⟨⟨rfl,rfl⟩,⟨rfl,rfl⟩,⟨rfl,rfl⟩,⟨rfl,rfl⟩,⟨(congrArg iv (o12 hp x0 hx0 h3)),rfl⟩,tv⟩,⟨⟨rfl,rfl⟩,⟨rfl,⟨⟨rfl,rfl,(fun i4=>(fun h5=>rfl))⟩,⟨rfl,rfl,(fun i6=>(fun h7=>(o13 hp x0 hx0 h3 i6 h7)))⟩,tv⟩,rfl⟩,tv⟩,rfl,rfl⟩) (o14 hp x0 hx0 h3) (o15 hp x0 hx0 h3)
 ·refine swp_exit (swp_seq ?_)
  refine sQ (kt:=[1,6]) (kh:=[0,10088]) (q:=tn 3) (st':=ASt.mk [(1,.ptr 0 []),(6,.vec 10088)] [(0,.cells 25 (cRun r)),(10088,.vec 107 19 1 fun (j:Nat)=>List.getD [[.sl 1 0 fun (i:Nat)=>[iv (List.getD [] i 0)],.arr 6 3 fun (m:Nat)=>[.arr 2 3 fun (p:Nat)=>cSpan ((WayS.mk [] (firstWhn r x0)).whn m p)]]] j (TI.za ti107))] 10104) (tp 3) ?_
  refine swp_seq (swp_seq ?_)
  refine sQ (kt:=[6,35,36,37]) (kh:=[10088]) (q:=tn 4) (st':=ASt.mk [(6,.vec 10088),(35,.sl 3 r.found.length fun (i:Nat)=>cFnd (fnd r i)),(36,iv (↑(r.found.length):Int)),(37,iv 0)] [(10088,.vec 107 19 1 fun (j:Nat)=>List.getD [[.sl 1 0 fun (i:Nat)=>[iv (List.getD [] i 0)],.arr 6 3 fun (m:Nat)=>[.arr 2 3 fun (p:Nat)=>cSpan ((WayS.mk [] (firstWhn r x0)).whn m p)]]] j (TI.za ti107))] 10136) (tp 4) ?_
  refine swp_block ?_
  refine swp_loopA (z116_4 r) (eQ hE [] [(5000,.same 10088)] [35,36] [] (((zT (AV.sl 3 r.found.length fun (i:Nat)=>cFnd (fnd r i)))/\(zT (iv (↑(r.found.length):Int)))/\(zN (iv 0) (iv (↑0:Int)))/\zE (some (Src.same 10088))/\True)/\((107=107/\19=19/\1=(waysTo r 0).length /\ ∀ (i9:Nat),i9 < 1->List.getD [[AV.sl 1 0 fun (i:Nat)=>[iv (List.getD [] i 0)],AV.arr 6 3 fun (m:Nat)=>[AV.arr 2 3 fun (p:Nat)=>cSpan ((WayS.mk [] (firstWhn r x0)).whn m p)]]] i9 (TI.za ti107)=cWay ((waysTo r 0).getD i9 default))/\True)/\T2) ⟨⟨⟨rfl,rfl⟩,⟨rfl,rfl⟩,⟨(congrArg iv (o16 hp x0 hx0 h3)),rfl⟩,rfl,tv⟩,⟨⟨rfl,rfl,(o17 hp x0 hx0 h3),(fun i9=>(fun h10=>(o18 hp x0 hx0 h3 i9 h10)))⟩,tv⟩,rfl,rfl⟩) (o19 hp x0 hx0 h3) (fun (x8:Nat) hx8 => ?_)
  refine swp_seq ?_
  refine sQ (kt:=[35,36,37,6,38]) (kh:=[5000]) (q:=True/\True) (st':=ASt.mk [(35,.sl 3 r.found.length fun (i:Nat)=>cFnd (fnd r i)),(36,iv (↑(r.found.length):Int)),(37,iv (x8:Int)),(6,.vec 5000),(38,bv (decide ((x8:Int) < (↑(r.found.length):Int))))] [(5000,.vec 107 19 (waysTo r x8).length fun (j:Nat)=>cWay ((waysTo r x8).getD j default))] 20144) ⟨tv,tv⟩ ?_
  refine swp_seq ?_
  refine swp_cond (decide ((x8:Int) < (↑(r.found.length):Int))) (by kernel_rfl) (fun h11 => ?_) (fun h11 => ?_)
  ·refine swp_skip (swp_seq (swp_block (swp_seq ?_)))
   refine sQ (kt:=[35,36,37,6,8]) (kh:=[5000,20160]) (q:=(0<=(x8:Int)/\(x8:Int) < (↑(r.found.length):Int))/\tn 3) (st':=ASt.mk [(35,.sl 3 r.found.length fun (i:Nat)=>cFnd (fnd r i)),(36,iv (↑(r.found.length):Int)),(37,iv (x8:Int)),(6,.vec 5000),(8,.ptr 20160 [])] [(5000,.vec 107 19 (waysTo r x8).length fun (j:Nat)=>cWay ((waysTo r x8).getD j default)),(20160,.cells 32 (cFnd (fnd r x8)))] 20176) ⟨⟨(o20 hp x0 hx0 h3 x8 hx8 h11),(o21 hp x0 hx0 h3 x8 hx8 h11)⟩,tp 3⟩ ?_
   refine swp_seq ?_
   refine sQ (kt:=[35,36,37,6,8,9]) (kh:=[5000,20160]) (q:=True/\True) (st':=ASt.mk [(35,.sl 3 r.found.length fun (i:Nat)=>cFnd (fnd r i)),(36,iv (↑(r.found.length):Int)),(37,iv (x8:Int)),(6,.vec 5000),(8,.ptr 20160 []),(9,nilv)] [(5000,.vec 107 19 (waysTo r x8).length fun (j:Nat)=>cWay ((waysTo r x8).getD j default)),(20160,.cells 32 (cFnd (fnd r x8)))] 20184) ⟨tv,tv⟩ ?_
   refine swp_seq (swp_seq ?_)
   refine sQ (kt:=[35,36,37,8,9,41,42,43]) (kh:=[20160,5000]) (q:=tn 3) (st':=ASt.mk [(35,.sl 3 r.found.length fun (i:Nat)=>cFnd (fnd r i)),(36,iv (↑(r.found.length):Int)),(37,iv (x8:Int)),(8,.ptr 20160 []),(9,nilv),(41,.vec 5000),(42,iv (↑((waysTo r x8).length):Int)),(43,iv 0)] [(20160,.cells 32 (cFnd (fnd r x8))),(5000,.vec 107 19 (waysTo r x8).length fun (j:Nat)=>cWay ((waysTo r x8).getD j default))] 20208) (tp 3) ?_
   refine swp_block ?_
   refine swp_loopA (z116_2 r x8) (eQ hE [] [(20160,.same 20160),(5000,.same 5000),(5001,.nil)] [35,36,37,42] [20160,5000] (((zT (AV.sl 3 r.found.length fun (i:Nat)=>cFnd (fnd r i)))/\(zT (iv (↑(r.found.length):Int)))/\(zT (iv (x8:Int)))/\(zP 20160)/\zE (some (Src.same 5000))/\(zT (iv (↑((waysTo r x8).length):Int)))/\(zN (iv 0) (iv (↑0:Int)))/\zE (some Src.nil)/\True)/\((zT (OB.cells 32 (cFnd (fnd r x8))))/\(zT (OB.vec 107 19 (waysTo r x8).length fun (j:Nat)=>cWay ((waysTo r x8).getD j default)))/\(acc2 r x8 0).length=0/\True)/\T2) ⟨⟨⟨rfl,rfl⟩,⟨rfl,rfl⟩,⟨rfl,rfl⟩,⟨rfl,rfl⟩,rfl,⟨rfl,rfl⟩,⟨(congrArg iv (o22 hp x0 hx0 h3 x8 hx8 h11)),rfl⟩,rfl,tv⟩,⟨⟨rfl,rfl⟩,⟨rfl,rfl⟩,(o23 hp x0 hx0 h3 x8 hx8 h11),tv⟩,rfl,rfl⟩) (o24 hp x0 hx0 h3 x8 hx8 h11) (fun (x12:Nat) hx12 => ?_)
   refine swp_seq ?_
   refine sQ (kt:=[35,36,37,8,41,42,43,9,44]) (kh:=[20160,5000,5001]) (q:=True/\True) (st':=ASt.mk [(35,.sl 3 r.found.length fun (i:Nat)=>cFnd (fnd r i)),(36,iv (↑(r.found.length):Int)),(37,iv (x8:Int)),(8,.ptr 20160 []),(41,.vec 5000),(42,iv (↑((waysTo r x8).length):Int)),(43,iv (x12:Int)),(9,.vec 5001),(44,bv (decide ((x12:Int) < (↑((waysTo r x8).length):Int))))] [(20160,.cells 32 (cFnd (fnd r x8))),(5000,.vec 107 19 (waysTo r x8).length fun (j:Nat)=>cWay ((waysTo r x8).getD j default)),(5001,.vec 107 19 (acc2 r x8 x12).length fun (j:Nat)=>cWay ((acc2 r x8 x12).getD j default))] 30216) ⟨tv,tv⟩ ?_
   refine swp_seq ?_
   refine swp_cond (decide ((x12:Int) < (↑((waysTo r x8).length):Int))) (by kernel_rfl) (fun h13 => ?_) (fun h13 => ?_)
   ·refine swp_skip (swp_seq (swp_block (swp_seq ?_)))
    refine sQ (kt:=[35,36,37,8,41,42,43,9,11]) (kh:=[20160,5000,5001,30232]) (q:=(0<=(x12:Int)/\(x12:Int) < (↑((waysTo r x8).length):Int))/\(x12 < (waysTo r x8).length/\True)/\tn 2) (st':=ASt.mk [(35,.sl 3 r.found.length fun (i:Nat)=>cFnd (fnd r i)),(36,iv (↑(r.found.length):Int)),(37,iv (x8:Int)),(8,.ptr 20160 []),(41,.vec 5000),(42,iv (↑((waysTo r x8).length):Int)),(43,iv (x12:Int)),(9,.vec 5001),(11,.ptr 30232 [])] [(20160,.cells 32 (cFnd (fnd r x8))),(5000,.vec 107 19 (waysTo r x8).length fun (j:Nat)=>cWay ((waysTo r x8).getD j default)),(5001,.vec 107 19 (acc2 r x8 x12).length fun (j:Nat)=>cWay ((acc2 r x8 x12).getD j default)),(30232,.cells 107 (cWay ((waysTo r x8).getD x12 default)))] 30248) ⟨⟨(o25 hp x0 hx0 h3 x8 hx8 h11 x12 hx12 h13),(o26 hp x0 hx0 h3 x8 hx8 h11 x12 hx12 h13)⟩,⟨(o27 hp x0 hx0 h3 x8 hx8 h11 x12 hx12 h13),tv⟩,tp 2⟩ ?_
    refine swp_seq ?_
    refine sQ (kt:=[35,36,37,8,41,42,43,9,11,48,49,50]) (kh:=[20160,5000,5001,30232]) (q:=tn 4) (st':=ASt.mk [(35,.sl 3 r.found.length fun (i:Nat)=>cFnd (fnd r i)),(36,iv (↑(r.found.length):Int)),(37,iv (x8:Int)),(8,.ptr 20160 []),(41,.vec 5000),(42,iv (↑((waysTo r x8).length):Int)),(43,iv (x12:Int)),(9,.vec 5001),(11,.ptr 30232 []),(48,aInts (fnd r x8).frm),(49,iv (↑((fnd r x8).frm.length):Int)),(50,iv 0)] [(20160,.cells 32 (cFnd (fnd r x8))),(5000,.vec 107 19 (waysTo r x8).length fun (j:Nat)=>cWay ((waysTo r x8).getD j default)),(5001,.vec 107 19 (acc2 r x8 x12).length fun (j:Nat)=>cWay ((acc2 r x8 x12).getD j default)),(30232,.cells 107 (cWay ((waysTo r x8).getD x12 default)))] 30280) (tp 4) ?_
    refine swp_block ?_
    refine swp_loopA (z116_1 r x8 x12) (eQ hE [] [(20160,.same 20160),(5000,.same 5000),(30232,.same 30232),(5002,.same 5001)] [35,36,37,42,43,48,49] [20160,5000,30232] (((zT (AV.sl 3 r.found.length fun (i:Nat)=>cFnd (fnd r i)))/\(zT (iv (↑(r.found.length):Int)))/\(zT (iv (x8:Int)))/\(zP 20160)/\zE (some (Src.same 5000))/\(zT (iv (↑((waysTo r x8).length):Int)))/\(zT (iv (x12:Int)))/\(zP 30232)/\(zT (aInts (fnd r x8).frm))/\(zT (iv (↑((fnd r x8).frm.length):Int)))/\(zN (iv 0) (iv (↑0:Int)))/\zE (some (Src.same 5001))/\True)/\((zT (OB.cells 32 (cFnd (fnd r x8))))/\(zT (OB.vec 107 19 (waysTo r x8).length fun (j:Nat)=>cWay ((waysTo r x8).getD j default)))/\(zT (OB.cells 107 (cWay ((waysTo r x8).getD x12 default))))/\(107=107/\19=19/\(acc2 r x8 x12).length=(acc3 r x8 x12 0).length /\ ∀ (i15:Nat),i15 < (acc2 r x8 x12).length->cWay ((acc2 r x8 x12).getD i15 default)=cWay ((acc3 r x8 x12 0).getD i15 default))/\True)/\T2) ⟨⟨⟨rfl,rfl⟩,⟨rfl,rfl⟩,⟨rfl,rfl⟩,⟨rfl,rfl⟩,rfl,⟨rfl,rfl⟩,⟨rfl,rfl⟩,⟨rfl,rfl⟩,⟨rfl,rfl⟩,⟨rfl,rfl⟩,⟨(congrArg iv (o28 hp x0 hx0 h3 x8 hx8 h11 x12 hx12 h13)),rfl⟩,rfl,tv⟩,⟨⟨rfl,rfl⟩,⟨rfl,rfl⟩,⟨rfl,rfl⟩,⟨rfl,rfl,(o29 hp x0 hx0 h3 x8 hx8 h11 x12 hx12 h13),(fun i15=>(fun h16=>(o30 hp x0 hx0 h3 x8 hx8 h11 x12 hx12 h13 i15 h16)))⟩,tv⟩,rfl,rfl⟩) (o31 hp x0 hx0 h3 x8 hx8 h11 x12 hx12 h13) (fun (x14:Nat) hx14 => ?_)
    refine swp_seq ?_
    refine sQ (kt:=[35,36,37,8,41,42,43,11,48,49,50,9,51]) (kh:=[20160,5000,30232,5002]) (q:=True/\True) (st':=ASt.mk [(35,.sl 3 r.found.length fun (i:Nat)=>cFnd (fnd r i)),(36,iv (↑(r.found.length):Int)),(37,iv (x8:Int)),(8,.ptr 20160 []),(41,.vec 5000),(42,iv (↑((waysTo r x8).length):Int)),(43,iv (x12:Int)),(11,.ptr 30232 []),(48,aInts (fnd r x8).frm),(49,iv (↑((fnd r x8).frm.length):Int)),(50,iv (x14:Int)),(9,.vec 5002),(51,bv (decide ((x14:Int) < (↑((fnd r x8).frm.length):Int))))] [(20160,.cells 32 (cFnd (fnd r x8))),(5000,.vec 107 19 (waysTo r x8).length fun (j:Nat)=>cWay ((waysTo r x8).getD j default)),(30232,.cells 107 (cWay ((waysTo r x8).getD x12 default))),(5002,.vec 107 19 (acc3 r x8 x12 x14).length fun (j:Nat)=>cWay ((acc3 r x8 x12 x14).getD j default))] 40288) ⟨tv,tv⟩ ?_
    refine swp_seq ?_
    refine swp_cond (decide ((x14:Int) < (↑((fnd r x8).frm.length):Int))) (by kernel_rfl) (fun h17 => ?_) (fun h17 => ?_)
    ·refine swp_skip (swp_seq (swp_block (swp_seq ?_)))
     refine sQ (kt:=[35,36,37,8,41,42,43,11,48,49,50,9,13]) (kh:=[20160,5000,30232,5002]) (q:=(0<=(x14:Int)/\(x14:Int) < (↑((fnd r x8).frm.length):Int))/\tn 2) (st':=ASt.mk [(35,.sl 3 r.found.length fun (i:Nat)=>cFnd (fnd r i)),(36,iv (↑(r.found.length):Int)),(37,iv (x8:Int)),(8,.ptr 20160 []),(41,.vec 5000),(42,iv (↑((waysTo r x8).length):Int)),(43,iv (x12:Int)),(11,.ptr 30232 []),(48,aInts (fnd r x8).frm),(49,iv (↑((fnd r x8).frm.length):Int)),(50,iv (x14:Int)),(9,.vec 5002),(13,iv ((fnd r x8).frm.getD x14 0))] [(20160,.cells 32 (cFnd (fnd r x8))),(5000,.vec 107 19 (waysTo r x8).length fun (j:Nat)=>cWay ((waysTo r x8).getD j default)),(30232,.cells 107 (cWay ((waysTo r x8).getD x12 default))),(5002,.vec 107 19 (acc3 r x8 x12 x14).length fun (j:Nat)=>cWay ((acc3 r x8 x12 x14).getD j default))] 40312) ⟨⟨(o32 hp x0 hx0 h3 x8 hx8 h11 x12 hx12 h13 x14 hx14 h17),(o33 hp x0 hx0 h3 x8 hx8 h11 x12 hx12 h13 x14 hx14 h17)⟩,tp 2⟩ ?_
     refine swp_seq ?_
     refine sQ (kt:=[35,36,37,8,41,42,43,11,48,49,50,9,13,14]) (kh:=[20160,5000,30232,5002,40432,40400]) (q:=True/\True/\True/\True/\True/\True/\True/\True/\(zE (↑(((waysTo r x8).getD x12 default).frm.length):Int)/\zE (↑(((waysTo r x8).getD x12 default).frm.length):Int))/\True/\True/\(((waysTo r x8).getD x12 default).frm.length + 1<=65536/\0 < 1)/\tn 5) (st':=ASt.mk [(35,.sl 3 r.found.length fun (i:Nat)=>cFnd (fnd r i)),(36,iv (↑(r.found.length):Int)),(37,iv (x8:Int)),(8,.ptr 20160 []),(41,.vec 5000),(42,iv (↑((waysTo r x8).length):Int)),(43,iv (x12:Int)),(11,.ptr 30232 []),(48,aInts (fnd r x8).frm),(49,iv (↑((fnd r x8).frm.length):Int)),(50,iv (x14:Int)),(9,.vec 5002),(13,iv ((fnd r x8).frm.getD x14 0)),(14,.ptr 40432 [])] [(20160,.cells 32 (cFnd (fnd r x8))),(5000,.vec 107 19 (waysTo r x8).length fun (j:Nat)=>cWay ((waysTo r x8).getD j default)),(30232,.cells 107 (cWay ((waysTo r x8).getD x12 default))),(5002,.vec 107 19 (acc3 r x8 x12 x14).length fun (j:Nat)=>cWay ((acc3 r x8 x12 x14).getD j default)),(40432,.cells 107 [.vec 40400,.arr 6 3 fun (m:Nat)=>[.arr 2 3 fun (p:Nat)=>cSpan (((waysTo r x8).getD x12 default).whn m p)]]),(40400,.vec 3 1 (((waysTo r x8).getD x12 default).frm.length + 1) (catF ((waysTo r x8).getD x12 default).frm.length (fun (i:Nat)=>[iv (((waysTo r x8).getD x12 default).frm.getD i 0)]) fun (j:Nat)=>List.getD [[iv ((fnd r x8).frm.getD x14 0)]] j (TI.za ti3)))] 40448) ⟨tv,tv,tv,tv,tv,tv,tv,tv,⟨rfl,rfl⟩,tv,tv,⟨(o34 hp x0 hx0 h3 x8 hx8 h11 x12 hx12 h13 x14 hx14 h17),(by decide)⟩,tp 5⟩ ?_
     refine swp_seq ?_
     refine swp_ent (eQ (st2:=ASt.mk [(35,AV.sl 3 r.found.length fun (i:Nat)=>cFnd (fnd r i)),(36,iv (↑(r.found.length):Int)),(37,iv (x8:Int)),(8,AV.ptr 20160 []),(41,AV.vec 5000),(42,iv (↑((waysTo r x8).length):Int)),(43,iv (x12:Int)),(11,AV.ptr 30232 []),(48,aInts (fnd r x8).frm),(49,iv (↑((fnd r x8).frm.length):Int)),(50,iv (x14:Int)),(9,AV.vec 5002),(13,iv ((fnd r x8).frm.getD x14 0)),(14,AV.ptr 40432 [])] [(40432,OB.cells 107 (cWay (WayS.mk (((waysTo r x8).getD x12 default).frm ++ [(fnd r x8).frm.getD x14 0]) ((waysTo r x8).getD x12 default).whn))),(20160,OB.cells 32 (cFnd (fnd r x8))),(5000,OB.vec 107 19 (waysTo r x8).length fun (j:Nat)=>cWay ((waysTo r x8).getD j default)),(30232,OB.cells 107 (cWay ((waysTo r x8).getD x12 default))),(5002,OB.vec 107 19 (acc3 r x8 x12 x14).length fun (j:Nat)=>cWay ((acc3 r x8 x12 x14).getD j default))] 40448) hE [40400] [(20160,.same 20160),(5000,.same 5000),(30232,.same 30232),(5002,.same 5002),(40432,.same 40432)] [35,36,37,42,43,48,49,50,13] [20160,5000,30232,5002] (((zT (AV.sl 3 r.found.length fun (i:Nat)=>cFnd (fnd r i)))/\(zT (iv (↑(r.found.length):Int)))/\(zT (iv (x8:Int)))/\(zP 20160)/\zE (some (Src.same 5000))/\(zT (iv (↑((waysTo r x8).length):Int)))/\(zT (iv (x12:Int)))/\(zP 30232)/\(zT (aInts (fnd r x8).frm))/\(zT (iv (↑((fnd r x8).frm.length):Int)))/\(zT (iv (x14:Int)))/\zE (some (Src.same 5002))/\(zT (iv ((fnd r x8).frm.getD x14 0)))/\(zP 40432)/\True)/\((107=107/\((1=1/\((waysTo r x8).getD x12 default).frm.length + 1=(((waysTo r x8).getD x12 default).frm ++ [(fnd r x8).frm.getD x14 0]).length /\ ∀ (i18:Nat),i18 < (((waysTo r x8).getD x12 default).frm ++ [(fnd r x8).frm.getD x14 0]).length->catF ((waysTo r x8).getD x12 default).frm.length (fun (i:Nat)=>[iv (((waysTo r x8).getD x12 default).frm.getD i 0)]) (fun (j:Nat)=>List.getD [[iv ((fnd r x8).frm.getD x14 0)]] j (TI.za ti3)) i18 = [iv ((((waysTo r x8).getD x12 default).frm ++ [(fnd r x8).frm.getD x14 0]).getD i18 0)])/\(6=6/\3=3 /\ ∀ (i20:Nat),i20 < 3 -> [AV.arr 2 3 fun (p:Nat)=>cSpan (((waysTo r x8).getD x12 default).whn i20 p)] = [AV.arr 2 3 fun (p:Nat)=>cSpan ((WayS.mk (((waysTo r x8).getD x12 default).frm ++ [(fnd r x8).frm.getD x14 0]) ((waysTo r x8).getD x12 default).whn).whn i20 p)])/\True)/\true=true)/\(zT (OB.cells 32 (cFnd (fnd r x8))))/\(zT (OB.vec 107 19 (waysTo r x8).length fun (j:Nat)=>cWay ((waysTo r x8).getD j default)))/\(zT (OB.cells 107 (cWay ((waysTo r x8).getD x12 default))))/\(zT (OB.vec 107 19 (acc3 r x8 x12 x14).length fun (j:Nat)=>cWay ((acc3 r x8 x12 x14).getD j default)))/\True)/\T2) ⟨⟨⟨rfl,rfl⟩,⟨rfl,rfl⟩,⟨rfl,rfl⟩,⟨rfl,rfl⟩,rfl,⟨rfl,rfl⟩,⟨rfl,rfl⟩,⟨rfl,rfl⟩,⟨rfl,rfl⟩,⟨rfl,rfl⟩,⟨rfl,rfl⟩,rfl,⟨rfl,rfl⟩,⟨rfl,rfl⟩,tv⟩,⟨⟨rfl,⟨⟨rfl,(o35 hp x0 hx0 h3 x8 hx8 h11 x12 hx12 h13 x14 hx14 h17),(fun i18=>(fun h19=>(o36 hp x0 hx0 h3 x8 hx8 h11 x12 hx12 h13 x14 hx14 h17 i18 h19)))⟩,⟨rfl,rfl,(fun i20=>(fun h21=>rfl))⟩,tv⟩,rfl⟩,⟨rfl,rfl⟩,⟨rfl,rfl⟩,⟨rfl,rfl⟩,⟨rfl,rfl⟩,tv⟩,rfl,rfl⟩) ?_
     refine sC (cs:=[(3,CallSpec.eq (c116 r x8 x12 x14) [true,true,false])]) (kt:=[35,36,37,8,41,42,43,11,48,49,50,9,14,72]) (kh:=[20160,5000,30232,5002,40432]) (q:=True/\True/\True/\((zE (AV.ptr 40432 [PS.fld 1])/\zE (AV.agg (cFnd (fnd r x8)))/\iv ((fnd r x8).frm.getD x14 0)=iv (↑(((fnd r x8).frm.getD x14 0).toNat):Int)/\True)/\Triple Try.prog 139 (c116 r x8 x12 x14)/\(((fnd r x8).frm.getD x14 0).toNat < 3/\(fnd r x8).new.length<=3/\0<=(fnd r x8).minute/\(fnd r x8).minute<=1000)/\(zE (some (OB.cells 107 (cWay (WayS.mk (((waysTo r x8).getD x12 default).frm ++ [(fnd r x8).frm.getD x14 0]) ((waysTo r x8).getD x12 default).whn))))/\True) /\ ∀ (i22:Env),True)/\True) (st':=ASt.mk [(35,.sl 3 r.found.length fun (i:Nat)=>cFnd (fnd r i)),(36,iv (↑(r.found.length):Int)),(37,iv (x8:Int)),(8,.ptr 20160 []),(41,.vec 5000),(42,iv (↑((waysTo r x8).length):Int)),(43,iv (x12:Int)),(11,.ptr 30232 []),(48,aInts (fnd r x8).frm),(49,iv (↑((fnd r x8).frm.length):Int)),(50,iv (x14:Int)),(9,.vec 5002),(14,.ptr 40432 []),(72,bv (see (fnd r x8) ((fnd r x8).frm.getD x14 0).toNat ((waysTo r x8).getD x12 default).whn).1)] [(20160,.cells 32 (cFnd (fnd r x8))),(5000,.vec 107 19 (waysTo r x8).length fun (j:Nat)=>cWay ((waysTo r x8).getD j default)),(30232,.cells 107 (cWay ((waysTo r x8).getD x12 default))),(5002,.vec 107 19 (acc3 r x8 x12 x14).length fun (j:Nat)=>cWay ((acc3 r x8 x12 x14).getD j default)),(40432,.cells 107 (cWay (WayS.mk (((waysTo r x8).getD x12 default).frm ++ [(fnd r x8).frm.getD x14 0]) (see (fnd r x8) ((fnd r x8).frm.getD x14 0).toNat ((waysTo r x8).getD x12 default).whn).2)))] 40480) ⟨tv,tv,tv,⟨⟨rfl,rfl,(congrArg iv (o37 hp x0 hx0 h3 x8 hx8 h11 x12 hx12 h13 x14 hx14 h17)),tv⟩,(t139 _ _ _ _ _),⟨(o38 hp x0 hx0 h3 x8 hx8 h11 x12 hx12 h13 x14 hx14 h17),(o39 hp x0 hx0 h3 x8 hx8 h11 x12 hx12 h13 x14 hx14 h17),(o40 hp x0 hx0 h3 x8 hx8 h11 x12 hx12 h13 x14 hx14 h17),(o41 hp x0 hx0 h3 x8 hx8 h11 x12 hx12 h13 x14 hx14 h17)⟩,⟨rfl,tv⟩,(fun i22=>tv)⟩,tv⟩ ?_
     refine swp_cond (see (fnd r x8) ((fnd r x8).frm.getD x14 0).toNat ((waysTo r x8).getD x12 default).whn).1 (by kernel_rfl) (fun h23 => ?_) (fun h23 => ?_)
     ·refine sQ (kt:=[35,36,37,8,41,42,43,11,48,49,50,9]) (kh:=[20160,5000,30232,40504]) (q:=True/\True/\True/\(acc3 r x8 x12 x14).length + 1<=65536/\True/\True) (st':=ASt.mk [(35,.sl 3 r.found.length fun (i:Nat)=>cFnd (fnd r i)),(36,iv (↑(r.found.length):Int)),(37,iv (x8:Int)),(8,.ptr 20160 []),(41,.vec 5000),(42,iv (↑((waysTo r x8).length):Int)),(43,iv (x12:Int)),(11,.ptr 30232 []),(48,aInts (fnd r x8).frm),(49,iv (↑((fnd r x8).frm.length):Int)),(50,iv (x14:Int)),(9,.vec 40504)] [(20160,.cells 32 (cFnd (fnd r x8))),(5000,.vec 107 19 (waysTo r x8).length fun (j:Nat)=>cWay ((waysTo r x8).getD j default)),(30232,.cells 107 (cWay ((waysTo r x8).getD x12 default))),(40504,.vec 107 19 ((acc3 r x8 x12 x14).length + 1) (catF (acc3 r x8 x12 x14).length (fun (j:Nat)=>cWay ((acc3 r x8 x12 x14).getD j default)) fun (j:Nat)=>List.getD [[.sl 1 (((waysTo r x8).getD x12 default).frm ++ [(fnd r x8).frm.getD x14 0]).length fun (i:Nat)=>[iv ((((waysTo r x8).getD x12 default).frm ++ [(fnd r x8).frm.getD x14 0]).getD i 0)],.arr 6 3 fun (m:Nat)=>[.arr 2 3 fun (p:Nat)=>cSpan ((WayS.mk (((waysTo r x8).getD x12 default).frm ++ [(fnd r x8).frm.getD x14 0]) (see (fnd r x8) ((fnd r x8).frm.getD x14 0).toNat ((waysTo r x8).getD x12 default).whn).2).whn m p)]]] j (TI.za ti107)))] 40520) ⟨tv,tv,tv,(o42 hp x0 hx0 h3 x8 hx8 h11 x12 hx12 h13 x14 hx14 h17 h23),tv,tv⟩ ?_
      refine sQ (kt:=[35,36,37,8,41,42,43,11,48,49,50,9]) (kh:=[20160,5000,30232,40504]) (q:=inI ((x14:Int) + 1)/\True/\True) (st':=ASt.mk [(35,.sl 3 r.found.length fun (i:Nat)=>cFnd (fnd r i)),(36,iv (↑(r.found.length):Int)),(37,iv (x8:Int)),(8,.ptr 20160 []),(41,.vec 5000),(42,iv (↑((waysTo r x8).length):Int)),(43,iv (x12:Int)),(11,.ptr 30232 []),(48,aInts (fnd r x8).frm),(49,iv (↑((fnd r x8).frm.length):Int)),(50,iv ((x14:Int) + 1)),(9,.vec 40504)] [(20160,.cells 32 (cFnd (fnd r x8))),(5000,.vec 107 19 (waysTo r x8).length fun (j:Nat)=>cWay ((waysTo r x8).getD j default)),(30232,.cells 107 (cWay ((waysTo r x8).getD x12 default))),(40504,.vec 107 19 ((acc3 r x8 x12 x14).length + 1) (catF (acc3 r x8 x12 x14).length (fun (j:Nat)=>cWay ((acc3 r x8 x12 x14).getD j default)) fun (j:Nat)=>List.getD [[.sl 1 (((waysTo r x8).getD x12 default).frm ++ [(fnd r x8).frm.getD x14 0]).length fun (i:Nat)=>[iv ((((waysTo r x8).getD x12 default).frm ++ [(fnd r x8).frm.getD x14 0]).getD i 0)],.arr 6 3 fun (m:Nat)=>[.arr 2 3 fun (p:Nat)=>cSpan ((WayS.mk (((waysTo r x8).getD x12 default).frm ++ [(fnd r x8).frm.getD x14 0]) (see (fnd r x8) ((fnd r x8).frm.getD x14 0).toNat ((waysTo r x8).getD x12 default).whn).2).whn m p)]]] j (TI.za ti107)))] 40536) ⟨(o43 hp x0 hx0 h3 x8 hx8 h11 x12 hx12 h13 x14 hx14 h17 h23),tv,tv⟩ ?_
      exact loop_next (z116_1 r x8 x12) x14 (eQ hE [] [(20160,.same 20160),(5000,.same 5000),(30232,.same 30232),(5002,.same 40504)] [35,36,37,42,43,48,49] [20160,5000,30232] (((zT (AV.sl 3 r.found.length fun (i:Nat)=>cFnd (fnd r i)))/\(zT (iv (↑(r.found.length):Int)))/\(zT (iv (x8:Int)))/\(zP 20160)/\zE (some (Src.same 5000))/\(zT (iv (↑((waysTo r x8).length):Int)))/\(zT (iv (x12:Int)))/\(zP 30232)/\(zT (aInts (fnd r x8).frm))/\(zT (iv (↑((fnd r x8).frm.length):Int)))/\(zN (iv ((x14:Int) + 1)) (iv (↑(x14 + 1):Int)))/\zE (some (Src.same 40504))/\True)/\((zT (OB.cells 32 (cFnd (fnd r x8))))/\(zT (OB.vec 107 19 (waysTo r x8).length fun (j:Nat)=>cWay ((waysTo r x8).getD j default)))/\(zT (OB.cells 107 (cWay ((waysTo r x8).getD x12 default))))/\(107=107/\19=19/\(acc3 r x8 x12 x14).length + 1=(acc3 r x8 x12 (x14 + 1)).length /\ ∀ (i24:Nat),i24 < (acc3 r x8 x12 x14).length + 1->catF (acc3 r x8 x12 x14).length (fun (j:Nat)=>cWay ((acc3 r x8 x12 x14).getD j default)) (fun (j:Nat)=>List.getD [[AV.sl 1 (((waysTo r x8).getD x12 default).frm ++ [(fnd r x8).frm.getD x14 0]).length fun (i:Nat)=>[iv ((((waysTo r x8).getD x12 default).frm ++ [(fnd r x8).frm.getD x14 0]).getD i 0)],AV.arr 6 3 fun (m:Nat)=>[AV.arr 2 3 fun (p:Nat)=>cSpan ((WayS.mk (((waysTo r x8).getD x12 default).frm ++ [(fnd r x8).frm.getD x14 0]) (see (fnd r x8) ((fnd r x8).frm.getD x14 0).toNat ((waysTo r x8).getD x12 default).whn).2).whn m p)]]] j (TI.za ti107)) i24=cWay ((acc3 r x8 x12 (x14 + 1)).getD i24 default))/\True)/\T2) ⟨⟨⟨rfl,rfl⟩,⟨rfl,rfl⟩,⟨rfl,rfl⟩,⟨rfl,rfl⟩,rfl,⟨rfl,rfl⟩,⟨rfl,rfl⟩,⟨rfl,rfl⟩,⟨rfl,rfl⟩,⟨rfl,rfl⟩,⟨(congrArg iv (o44 hp x0 hx0 h3 x8 hx8 h11 x12 hx12 h13 x14 hx14 h17 h23)),rfl⟩,rfl,tv⟩,⟨⟨rfl,rfl⟩,⟨rfl,rfl⟩,⟨rfl,rfl⟩,⟨rfl,rfl,(o45 hp x0 hx0 h3 x8 hx8 h11 x12 hx12 h13 x14 hx14 h17 h23),(fun i24=>(fun h25=>(o46 hp x0 hx0 h3 x8 hx8 h11 x12 hx12 h13 x14 hx14 h17 h23 i24 h25)))⟩,tv⟩,rfl,rfl⟩) (o47 hp x0 hx0 h3 x8 hx8 h11 x12 hx12 h13 x14 hx14 h17 h23) (o48 hp x0 hx0 h3 x8 hx8 h11 x12 hx12 h13 x14 hx14 h17 h23)
     ·refine swp_skip ?_
      refine sQ (kt:=[35,36,37,8,41,42,43,11,48,49,50,9]) (kh:=[20160,5000,30232,5002]) (q:=inI ((x14:Int) + 1)/\True/\True) (st':=ASt.mk [(35,.sl 3 r.found.length fun (i:Nat)=>cFnd (fnd r i)),(36,iv (↑(r.found.length):Int)),(37,iv (x8:Int)),(8,.ptr 20160 []),(41,.vec 5000),(42,iv (↑((waysTo r x8).length):Int)),(43,iv (x12:Int)),(11,.ptr 30232 []),(48,aInts (fnd r x8).frm),(49,iv (↑((fnd r x8).frm.length):Int)),(50,iv ((x14:Int) + 1)),(9,.vec 5002)] [(20160,.cells 32 (cFnd (fnd r x8))),(5000,.vec 107 19 (waysTo r x8).length fun (j:Nat)=>cWay ((waysTo r x8).getD j default)),(30232,.cells 107 (cWay ((waysTo r x8).getD x12 default))),(5002,.vec 107 19 (acc3 r x8 x12 x14).length fun (j:Nat)=>cWay ((acc3 r x8 x12 x14).getD j default))] 40496) ⟨(o49 hp x0 hx0 h3 x8 hx8 h11 x12 hx12 h13 x14 hx14 h17 h23),tv,tv⟩ ?_
      exact loop_next (z116_1 r x8 x12) x14 (eQ hE [] [(20160,.same 20160),(5000,.same 5000),(30232,.same 30232),(5002,.same 5002)] [35,36,37,42,43,48,49] [20160,5000,30232] (((zT (AV.sl 3 r.found.length fun (i:Nat)=>cFnd (fnd r i)))/\(zT (iv (↑(r.found.length):Int)))/\(zT (iv (x8:Int)))/\(zP 20160)/\zE (some (Src.same 5000))/\(zT (iv (↑((waysTo r x8).length):Int)))/\(zT (iv (x12:Int)))/\(zP 30232)/\(zT (aInts (fnd r x8).frm))/\(zT (iv (↑((fnd r x8).frm.length):Int)))/\(zN (iv ((x14:Int) + 1)) (iv (↑(x14 + 1):Int)))/\zE (some (Src.same 5002))/\True)/\((zT (OB.cells 32 (cFnd (fnd r x8))))/\(zT (OB.vec 107 19 (waysTo r x8).length fun (j:Nat)=>cWay ((waysTo r x8).getD j default)))/\(zT (OB.cells 107 (cWay ((waysTo r x8).getD x12 default))))/\(107=107/\19=19/\(acc3 r x8 x12 x14).length=(acc3 r x8 x12 (x14 + 1)).length /\ ∀ (i26:Nat),i26 < (acc3 r x8 x12 x14).length->cWay ((acc3 r x8 x12 x14).getD i26 default)=cWay ((acc3 r x8 x12 (x14 + 1)).getD i26 default))/\True)/\T2) ⟨⟨⟨rfl,rfl⟩,⟨rfl,rfl⟩,⟨rfl,rfl⟩,⟨rfl,rfl⟩,rfl,⟨rfl,rfl⟩,⟨rfl,rfl⟩,⟨rfl,rfl⟩,⟨rfl,rfl⟩,⟨rfl,rfl⟩,⟨(congrArg iv (o50 hp x0 hx0 h3 x8 hx8 h11 x12 hx12 h13 x14 hx14 h17 h23)),rfl⟩,rfl,tv⟩,⟨⟨rfl,rfl⟩,⟨rfl,rfl⟩,⟨rfl,rfl⟩,⟨rfl,rfl,(o51 hp x0 hx0 h3 x8 hx8 h11 x12 hx12 h13 x14 hx14 h17 h23),(fun i26=>(fun h27=>(o52 hp x0 hx0 h3 x8 hx8 h11 x12 hx12 h13 x14 hx14 h17 h23 i26 h27)))⟩,tv⟩,rfl,rfl⟩) (o53 hp x0 hx0 h3 x8 hx8 h11 x12 hx12 h13 x14 hx14 h17 h23) (o54 hp x0 hx0 h3 x8 hx8 h11 x12 hx12 h13 x14 hx14 h17 h23)
    ·refine swp_exit ?_
     refine sQ (kt:=[35,36,37,8,41,42,43,9]) (kh:=[20160,5000,5002]) (q:=inI ((x12:Int) + 1)/\True/\True) (st':=ASt.mk [(35,.sl 3 r.found.length fun (i:Nat)=>cFnd (fnd r i)),(36,iv (↑(r.found.length):Int)),(37,iv (x8:Int)),(8,.ptr 20160 []),(41,.vec 5000),(42,iv (↑((waysTo r x8).length):Int)),(43,iv ((x12:Int) + 1)),(9,.vec 5002)] [(20160,.cells 32 (cFnd (fnd r x8))),(5000,.vec 107 19 (waysTo r x8).length fun (j:Nat)=>cWay ((waysTo r x8).getD j default)),(5002,.vec 107 19 (acc3 r x8 x12 x14).length fun (j:Nat)=>cWay ((acc3 r x8 x12 x14).getD j default))] 40304) ⟨(o55 hp x0 hx0 h3 x8 hx8 h11 x12 hx12 h13 x14 hx14 h17),tv,tv⟩ ?_
     exact loop_next (z116_2 r x8) x12 (eQ hE [] [(20160,.same 20160),(5000,.same 5000),(5001,.same 5002)] [35,36,37,42] [20160,5000] (((zT (AV.sl 3 r.found.length fun (i:Nat)=>cFnd (fnd r i)))/\(zT (iv (↑(r.found.length):Int)))/\(zT (iv (x8:Int)))/\(zP 20160)/\zE (some (Src.same 5000))/\(zT (iv (↑((waysTo r x8).length):Int)))/\(zN (iv ((x12:Int) + 1)) (iv (↑(x12 + 1):Int)))/\zE (some (Src.same 5002))/\True)/\((zT (OB.cells 32 (cFnd (fnd r x8))))/\(zT (OB.vec 107 19 (waysTo r x8).length fun (j:Nat)=>cWay ((waysTo r x8).getD j default)))/\(107=107/\19=19/\(acc3 r x8 x12 x14).length=(acc2 r x8 (x12 + 1)).length /\ ∀ (i28:Nat),i28 < (acc3 r x8 x12 x14).length->cWay ((acc3 r x8 x12 x14).getD i28 default)=cWay ((acc2 r x8 (x12 + 1)).getD i28 default))/\True)/\T2) ⟨⟨⟨rfl,rfl⟩,⟨rfl,rfl⟩,⟨rfl,rfl⟩,⟨rfl,rfl⟩,rfl,⟨rfl,rfl⟩,⟨(congrArg iv (o56 hp x0 hx0 h3 x8 hx8 h11 x12 hx12 h13 x14 hx14 h17)),rfl⟩,rfl,tv⟩,⟨⟨rfl,rfl⟩,⟨rfl,rfl⟩,⟨rfl,rfl,(o57 hp x0 hx0 h3 x8 hx8 h11 x12 hx12 h13 x14 hx14 h17),(fun i28=>(fun h29=>(o58 hp x0 hx0 h3 x8 hx8 h11 x12 hx12 h13 x14 hx14 h17 i28 h29)))⟩,tv⟩,rfl,rfl⟩) (o59 hp x0 hx0 h3 x8 hx8 h11 x12 hx12 h13 x14 hx14 h17) (o60 hp x0 hx0 h3 x8 hx8 h11 x12 hx12 h13 x14 hx14 h17)
   ·refine swp_exit ?_
    refine sQ (kt:=[35,36,37,6]) (kh:=[5001]) (q:=tn 2) (st':=ASt.mk [(35,.sl 3 r.found.length fun (i:Nat)=>cFnd (fnd r i)),(36,iv (↑(r.found.length):Int)),(37,iv (x8:Int)),(6,.vec 5001)] [(5001,.vec 107 19 (acc2 r x8 x12).length fun (j:Nat)=>cWay ((acc2 r x8 x12).getD j default))] 30232) (tp 2) ?_
    refine sQ (kt:=[35,36,37,6]) (kh:=[5001]) (q:=inI ((x8:Int) + 1)/\True/\True) (st':=ASt.mk [(35,.sl 3 r.found.length fun (i:Nat)=>cFnd (fnd r i)),(36,iv (↑(r.found.length):Int)),(37,iv ((x8:Int) + 1)),(6,.vec 5001)] [(5001,.vec 107 19 (acc2 r x8 x12).length fun (j:Nat)=>cWay ((acc2 r x8 x12).getD j default))] 30248) ⟨(o61 hp x0 hx0 h3 x8 hx8 h11 x12 hx12 h13),tv,tv⟩ ?_
    exact loop_next (z116_4 r) x8 (eQ hE [] [(5000,.same 5001)] [35,36] [] (((zT (AV.sl 3 r.found.length fun (i:Nat)=>cFnd (fnd r i)))/\(zT (iv (↑(r.found.length):Int)))/\(zN (iv ((x8:Int) + 1)) (iv (↑(x8 + 1):Int)))/\zE (some (Src.same 5001))/\True)/\((107=107/\19=19/\(acc2 r x8 x12).length=(waysTo r (x8 + 1)).length /\ ∀ (i30:Nat),i30 < (acc2 r x8 x12).length->cWay ((acc2 r x8 x12).getD i30 default)=cWay ((waysTo r (x8 + 1)).getD i30 default))/\True)/\T2) ⟨⟨⟨rfl,rfl⟩,⟨rfl,rfl⟩,⟨(congrArg iv (o62 hp x0 hx0 h3 x8 hx8 h11 x12 hx12 h13)),rfl⟩,rfl,tv⟩,⟨⟨rfl,rfl,(o63 hp x0 hx0 h3 x8 hx8 h11 x12 hx12 h13),(fun i30=>(fun h31=>(o64 hp x0 hx0 h3 x8 hx8 h11 x12 hx12 h13 i30 h31)))⟩,tv⟩,rfl,rfl⟩) (o65 hp x0 hx0 h3 x8 hx8 h11 x12 hx12 h13) (o66 hp x0 hx0 h3 x8 hx8 h11 x12 hx12 h13)
  ·refine swp_exit (swp_seq ?_)
   refine sQ (kt:=[2]) (kh:=[5000]) (q:=tn 2) (st':=ASt.mk [(2,.vec 5000)] [(5000,.vec 107 19 (waysTo r x8).length fun (j:Nat)=>cWay ((waysTo r x8).getD j default))] 20160) (tp 2) ?_
   refine swp_ret ?_
   exact rQ [5000] ((True/\True)/\(19=19/\(waysTo r x8).length=(waysOf r).length /\ ∀ (i32:Nat),i32 < (waysOf r).length->cWay ((waysTo r x8).getD i32 default)=cWay ((waysOf r).getD i32 default))/\T3) ⟨⟨tv,tv⟩,⟨rfl,(o67 hp x0 hx0 h3 x8 hx8 h11),(fun i32=>(fun h33=>(o68 hp x0 hx0 h3 x8 hx8 h11 i32 h33)))⟩,rfl,rfl,rfl⟩
theorem arr_first (r:Run) (x i:Nat) :
  (if i=x then [AV.arr 2 3 fun j=>if j < (mach r x).changes.length then [iv ((mach r x).changes.getD j default).lo,iv ((mach r x).changes.getD j default).hi] else cSpan (firstWhn r x x j)] ++ [] else [AV.arr 2 3 fun p=>cSpan (firstWhn r x i p)]) = [AV.arr 2 3 fun p=>cSpan (firstWhn r (x + 1) i p)]:=by
 split
 ·rename_i e
  rw [List.append_nil]
  refine congrArg (fun g=>[AV.arr 2 3 g]) (funext fun j => ?_)
  rw [firstWhn_succ r x _ rfl i j e]
  split <;> rfl
 ·rename_i e
  refine congrArg (fun g=>[AV.arr 2 3 g]) (funext fun j => ?_)
  rw [firstWhn_other r x i j e]
theorem t116 (r:Run):Triple Try.prog 116 (s116 r):=by
 apply w116
 case o6 | o7 | o8=>intro hp x hx hl; have:=(ok_of hp).machines; simp only [decide_eq_true_eq] at hl; omega
 case o9=>intro hp x hx hl; have h1:=(ok_of hp).plates; simp only [decide_eq_true_eq] at hl; have:=(ok_of hp).mach x (by omega); omega
 case o10=>intro hp x hx hl; have h1:=(ok_of hp).plates; simp only [decide_eq_true_eq] at hl; have:=(ok_of hp).mach x (by omega); omega
 case o11=>intro hp x hx hl; have:=(ok_of hp).machines; simp only [inI]; omega
 case o13=>intro hp x hx hl i hi; exact arr_first r x i
 case o18 =>
  intro hp x hx hl i hi
  simp only [decide_eq_false_iff_not] at hl
  have e:x=r.machines.length:=by omega
  have:i=0:=by omega
  subst this; subst e; rfl
 case o29=>(repeat intro _); rw [acc3_zero]
 case o30=>(repeat intro _); rw [acc3_zero]
 case o34 =>
  intro hp x hx hl n hn hnl i hi hil k hk hkl
  have:=(ok_of hp).found
  simp only [decide_eq_true_eq] at hil
  rw [waysTo_frm n _ (getD_mem _ default (by omega))]; omega
 case o36=>intro hp x hx hl n hn hnl i hi hil k hk hkl j hj; exact catF_one _ _ 0 (fun z=>[iv z]) rfl (fun _ _=>rfl) rfl (by simpa using hj)
 case o37=>intro hp x hx hl n hn hnl i hi hil k hk hkl; simp only [decide_eq_true_eq] at hnl hkl; have:=(ok_of hp).frm n (by omega) k (by omega); omega
 case o38=>intro hp x hx hl n hn hnl i hi hil k hk hkl; simp only [decide_eq_true_eq] at hnl hkl; have:=(ok_of hp).frm n (by omega) k (by omega); have:=(ok_of hp).machines; omega
 case o39=>intro hp x hx hl n hn hnl i hi hil k hk hkl; simp only [decide_eq_true_eq] at hnl; have:=(ok_of hp).fnd n (by omega); have:=(ok_of hp).plates; omega
 case o40=>intro hp x hx hl n hn hnl i hi hil k hk hkl; simp only [decide_eq_true_eq] at hnl; have:=(ok_of hp).fnd n (by omega); omega
 case o41=>intro hp x hx hl n hn hnl i hi hil k hk hkl; simp only [decide_eq_true_eq] at hnl; have:=(ok_of hp).fnd n (by omega); have:=(ok_of hp).last; omega
 case o42=>intro hp x hx hl n hn hnl i hi hil k hk hkl h; simp only [decide_eq_true_eq] at hnl; have:=acc3_len (ok_of hp) (n:=n) (by omega) i k; omega
 case o43=>intro hp x hx hl n hn hnl i hi hil k hk hkl h; simp only [decide_eq_true_eq] at hnl; have:=frm_len (ok_of hp) (i:=n) (by omega); simp only [inI]; omega
 case o49=>intro hp x hx hl n hn hnl i hi hil k hk hkl h; simp only [decide_eq_true_eq] at hnl; have:=frm_len (ok_of hp) (i:=n) (by omega); simp only [inI]; omega
 case o45=>intro hp x hx hl n hn hnl i hi hil k hk hkl h; simp only [decide_eq_true_eq] at hkl; rw [acc3_some (by omega) h,List.length_append]; rfl
 case o46=>intro hp x hx hl n hn hnl i hi hil k hk hkl h j hj; simp only [decide_eq_true_eq] at hkl; rw [acc3_some (by omega) h]; exact catF_one _ ⟨((waysTo r n).getD i default).frm ++ [(fnd r n).frm.getD k 0],(see (fnd r n) ((fnd r n).frm.getD k 0).toNat ((waysTo r n).getD i default).whn).2⟩ default cWay rfl (fun _ _=>rfl) rfl hj
 case o51=>intro hp x hx hl n hn hnl i hi hil k hk hkl h; simp only [decide_eq_true_eq] at hkl; rw [acc3_none (by omega) h]
 case o52=>intro hp x hx hl n hn hnl i hi hil k hk hkl h j hj; simp only [decide_eq_true_eq] at hkl; rw [acc3_none (by omega) h]
 case o55=>intro hp x hx hl n hn hnl i hi hil k hk hkl; simp only [decide_eq_true_eq] at hnl; have:=waysTo_bound (ok_of hp) (n:=n) (by omega); simp only [inI]; omega
 case o57=>intro hp x hx hl n hn hnl i hi hil k hk hkl; simp only [decide_eq_true_eq,decide_eq_false_iff_not] at hil hkl; rw [acc3_full (by omega) (by omega)]
 case o58=>intro hp x hx hl n hn hnl i hi hil k hk hkl j hj; simp only [decide_eq_true_eq,decide_eq_false_iff_not] at hil hkl; rw [acc3_full (by omega) (by omega)]
 case o61=>intro hp x hx hl n hn hnl i hi hil; have:=(ok_of hp).found; simp only [inI]; omega
 case o63=>intro hp x hx hl n hn hnl i hi hil; simp only [decide_eq_false_iff_not] at hil; rw [acc2_full (by omega)]
 case o64=>intro hp x hx hl n hn hnl i hi hil j hj; simp only [decide_eq_false_iff_not] at hil; rw [acc2_full (by omega)]
 case o67=>intro hp x hx hl n hn hnl; simp only [decide_eq_false_iff_not] at hnl; rw [show n=r.found.length by omega]; rfl
 case o68=>intro hp x hx hl n hn hnl j hj; simp only [decide_eq_false_iff_not] at hnl; rw [show n=r.found.length by omega]; rfl
 all_goals ((repeat intro _) <;> (try simp only [v0,v1,v2,v3,v4,v5,v6,v7,v8,v9,inI,fits,Go.Sh.small] at *) <;> first | (exact rfl) | omega | exact vz | (simp_all; done) | (simp_all; omega))
end Go.Ab
namespace Go.Sh
def openE (r:Run) (is:Bool):Int:=if check r=0 then (if is then (if (waysOf r).length=0 then 3 else 0) else 1) else 60
def openL (r:Run) (is:Bool):List WayS:=if openE r is=0 then waysOf r else []
def hull2 (a b:Span):Span:=⟨min a.lo b.lo,max a.hi b.hi⟩
def hullTo (l:List WayS) (F:WayS->Span) (n:Nat):Span:=(List.range n).foldl (fun o i=>hull2 o (F (l.getD i default))) (F (l.getD 0 default))
def hullOf (l:List WayS) (F:WayS->Span):Span:=hullTo l F l.length
theorem openE_bad {r:Run} {is:Bool} (h:check r ≠ 0):openE r is=60:=by simp [openE,h]
theorem openE_arg {r:Run} {is:Bool} (h:check r=0) (h2:is=false):openE r is=1:=by simp [openE,h,h2]
theorem openE_none {r:Run} {is:Bool} (h:check r=0) (h2:is=true) (h3:(waysOf r).length=0):openE r is=3:=by rw [openE,if_pos h,h2,if_pos rfl,if_pos h3]
theorem openE_ok {r:Run} {is:Bool} (h:check r=0) (h2:is=true) (h3:(waysOf r).length ≠ 0):openE r is=0:=by rw [openE,if_pos h,h2,if_pos rfl,if_neg h3]
theorem openL_bad {r:Run} {is:Bool} {n:Int} (h:openE r is=n) (hn:n ≠ 0):openL r is = []:=by rw [openL,h,if_neg hn]
theorem openL_ok {r:Run} {is:Bool} (h:openE r is=0):openL r is=waysOf r:=by rw [openL,if_pos h]
theorem openE_zero {r:Run} {is:Bool} (h:openE r is=0):okRun r=true/\is=true/\0 < (waysOf r).length/\openL r is=waysOf r:=by
 refine ⟨?_,?_,?_,openL_ok h⟩
 ·unfold openE at h
  split at h
  ·rename_i e; exact check_zero.1 e
  ·cases h
 ·unfold openE at h
  split at h
  ·split at h
   ·rename_i e; exact e
   ·cases h
  ·cases h
 ·unfold openE at h
  split at h
  ·split at h
   ·split at h
    ·cases h
    ·omega
   ·cases h
  ·cases h
theorem waysOf_bound {r:Run} (ok:Ok r):(waysOf r).length<=729:=waysTo_bound ok (Nat.le_refl _)
theorem hullTo_succ (l:List WayS) (F:WayS->Span) (n:Nat):hullTo l F (n + 1)=hull2 (hullTo l F n) (F (l.getD n default)):=Go.Ab.foldl_range_succ _ _ _
end Go.Sh
namespace Go.Ab
open Go Go.RowKit Go.Proofs Go.Sh Go.En
def s78 (r:Run) (is:Bool):CallSpec:={ args:=[vRun r,bv is],res := .tup [aWays (openL r is),iv (openE r is)],pre:=fits r }
def s81 (l:List WayS) (F:WayS->Span):CallSpec:={ args:=[aWays l,.fn 0],res:=vSpan (hullOf l F),pre:=0 < l.length/\l.length<=65536,fnok:=fnokOf Try.prog 0 (fun w:{ w:WayS // w ∈ l }=>[.agg (cWay w.1)]) (fun w=>vSpan (F w.1)) }
def h81 (l:List WayS) (F:WayS->Span):Hint:={ X:=Nat,M:=fun i=>[(16,iv i),(5,.ptr 5000 [])],H:=fun i=>[(5000,.cells 37 (cSpan (hullTo l F i)))],I:=fun i=>i<=l.length,mu:=fun i=>l.length - i,x0:=(0:Nat),nx:=fun i=>i + 1 }
def c81a (l:List WayS) (F:WayS->Span):CallSpec:={ args:=[.agg (cWay (l.getD 0 default))],res:=vSpan (F (l.getD 0 default)) }
def c81b (l:List WayS) (F:WayS->Span) (x:Nat):CallSpec:={ args:=[.agg (cWay (l.getD x default))],res:=vSpan (F (l.getD x default)) }
end Go.Ab
namespace Go.Ab
open Go Go.RowKit Go.Proofs Go.Sh Go.En
abbrev q78_1 (r:Run) (is:Bool) (C:Prop):Prop:=fits r->(!decide (check r=0))=false->(!is)=false->C
abbrev q78_2 (r:Run) (is:Bool) (C:Prop):Prop:=q78_1 r is (decide ((↑((waysOf r).length):Int)=0)=false->C)
theorem w78 (r:Run) (is:Bool)
 (o0:fits r->(!decide (check r=0))->(openL r is).length=0)
 (o1:fits r->(!decide (check r=0))->check r=openE r is)
 (o2:fits r->(!decide (check r=0))=false->(!is)=true->(openL r is).length=0)
 (o3:fits r->(!decide (check r=0))=false->(!is)=true->1=openE r is)
 (o4:q78_1 r is (okRun r=true))
 (o5:q78_1 r is (decide ((↑((waysOf r).length):Int)=0)=true->(openL r is).length=0))
 (o6:q78_1 r is (decide ((↑((waysOf r).length):Int)=0)=true->3=openE r is))
 (o7:q78_2 r is ((waysOf r).length=(openL r is).length))
 (o8:q78_2 r is (∀ (i5:Nat),i5 < (openL r is).length->cWay ((waysOf r).getD i5 default)=cWay ((openL r is).getD i5 default)))
 (o9:q78_2 r is (0=openE r is)) :
  Triple Try.prog 78 (s78 r is):=by
 refine triple_of Try.func78 rfl Try.call78 T0_ok _ rfl rfl rfl rfl (Nat.le_of_ble_eq_true (by kernel_rfl)) (fun _ _ _ _ h=>h) ?_
 intro hp C hC _ hE
 obtain ⟨P,w0,E0,av,hA⟩:=C
 subst hC
 refine swp_seq ?_
 refine sQ (kt:=[1,2]) (kh:=[0]) (q:=tn 3) (st':=ASt.mk [(1,bv is),(2,.ptr 0 [])] [(0,.cells 25 (cRun r))] 24) (tp 3) ?_
 refine swp_seq (swp_seq ?_)
 refine sC (cs:=[(1,CallSpec.eq (s71 r) [true])]) (kt:=[1,2,6]) (kh:=[0]) (q:=True/\((zE (AV.agg (cRun r))/\True)/\Triple Try.prog 71 (s71 r)/\fits r/\True /\ ∀ (i0:Env),True)/\True/\True) (st':=ASt.mk [(1,bv is),(2,.ptr 0 []),(6,iv (check r))] [(0,.cells 25 (cRun r))] 48) ⟨tv,⟨⟨rfl,tv⟩,(t71 (r)),hp,tv,(fun i0=>tv)⟩,tv,tv⟩ ?_
 refine swp_seq ?_
 refine sQ (kt:=[1,2,6,11]) (kh:=[0]) (q:=tn 2) (st':=ASt.mk [(1,bv is),(2,.ptr 0 []),(6,iv (check r)),(11,bv !decide (check r=0))] [(0,.cells 25 (cRun r))] 64) (tp 2) ?_
 refine swp_cond (!decide (check r=0)) (by kernel_rfl) (fun h1 => ?_) (fun h1 => ?_)
 ·refine swp_seq ?_
  refine sQ (kt:=[4,5]) (kh:=[]) (q:=tn 3) (st':=ASt.mk [(4,nilv),(5,iv (check r))] [] 88) (tp 3) ?_
  refine swp_ret ?_
  exact rQ [] ((True/\True/\True)/\((openL r is).length=0/\(zN (iv (check r)) (iv (openE r is)))/\True)/\T3) ⟨⟨tv,tv,tv⟩,⟨(o0 hp h1),⟨(congrArg iv (o1 hp h1)),rfl⟩,tv⟩,rfl,rfl,rfl⟩
 ·refine swp_skip (swp_seq (swp_seq ?_))
  refine sQ (kt:=[2,14]) (kh:=[0]) (q:=tn 2) (st':=ASt.mk [(2,.ptr 0 []),(14,bv !is)] [(0,.cells 25 (cRun r))] 80) (tp 2) ?_
  refine swp_cond (!is) (by kernel_rfl) (fun h2 => ?_) (fun h2 => ?_)
  ·refine swp_seq ?_
   refine sQ (kt:=[4,5]) (kh:=[]) (q:=tn 2) (st':=ASt.mk [(4,nilv),(5,iv 1)] [] 96) (tp 2) ?_
   refine swp_ret ?_
   exact rQ [] ((True/\True/\True)/\((openL r is).length=0/\(zN (iv 1) (iv (openE r is)))/\True)/\T3) ⟨⟨tv,tv,tv⟩,⟨(o2 hp h1 h2),⟨(congrArg iv (o3 hp h1 h2)),rfl⟩,tv⟩,rfl,rfl,rfl⟩
  ·refine swp_skip (swp_seq ?_)
   refine sC (cs:=[(1,CallSpec.eq (s116 r) [true])]) (kt:=[7]) (kh:=[]) (q:=True/\((zE (AV.agg (cRun r))/\True)/\Triple Try.prog 116 (s116 r)/\okRun r=true/\True /\ ∀ (i3:Env),True)/\True/\True) (st':=ASt.mk [(7,aWays (waysOf r))] [] 104) ⟨tv,⟨⟨rfl,tv⟩,(t116 (r)),(o4 hp h1 h2),tv,(fun i3=>tv)⟩,tv,tv⟩ ?_
   refine swp_seq (swp_seq ?_)
   refine sQ (kt:=[7,19]) (kh:=[]) (q:=tn 3) (st':=ASt.mk [(7,aWays (waysOf r)),(19,bv (decide ((↑((waysOf r).length):Int)=0)))] [] 128) (tp 3) ?_
   refine swp_cond (decide ((↑((waysOf r).length):Int)=0)) (by kernel_rfl) (fun h4 => ?_) (fun h4 => ?_)
   ·refine swp_seq ?_
    refine sQ (kt:=[4,5]) (kh:=[]) (q:=tn 2) (st':=ASt.mk [(4,nilv),(5,iv 3)] [] 144) (tp 2) ?_
    refine swp_ret ?_
    exact rQ [] ((True/\True/\True)/\((openL r is).length=0/\(zN (iv 3) (iv (openE r is)))/\True)/\T3) ⟨⟨tv,tv,tv⟩,⟨(o5 hp h1 h2 h4),⟨(congrArg iv (o6 hp h1 h2 h4)),rfl⟩,tv⟩,rfl,rfl,rfl⟩
   ·refine swp_skip (swp_seq ?_)
    refine sQ (kt:=[4,5]) (kh:=[]) (q:=tn 3) (st':=ASt.mk [(4,aWays (waysOf r)),(5,iv 0)] [] 152) (tp 3) ?_
    refine swp_ret ?_
    exact rQ [] ((True/\True/\True)/\((19=19/\(waysOf r).length=(openL r is).length /\ ∀ (i5:Nat),i5 < (openL r is).length->cWay ((waysOf r).getD i5 default)=cWay ((openL r is).getD i5 default))/\(zN (iv 0) (iv (openE r is)))/\True)/\T3) ⟨⟨tv,tv,tv⟩,⟨⟨rfl,(o7 hp h1 h2 h4),(fun i5=>(fun h6=>(o8 hp h1 h2 h4 i5 h6)))⟩,⟨(congrArg iv (o9 hp h1 h2 h4)),rfl⟩,tv⟩,rfl,rfl,rfl⟩
theorem t78 (r:Run) (is:Bool):Triple Try.prog 78 (s78 r is):=by
 have bad:(!decide (check r=0))=true->check r=60/\openE r is=60:=by
  intro h
  simp only [Bool.not_eq_true',decide_eq_false_iff_not] at h
  refine ⟨?_,openE_bad h⟩
  unfold check at h ⊢
  split at h
  ·exact absurd rfl h
  ·rename_i e; rw [if_neg e]
 have good:(!decide (check r=0))=false->check r=0:=by intro h; simpa using h
 apply w78
 case o0=>intro _ h; rw [openL_bad (bad h).2 (by decide)]; rfl
 case o1=>intro _ h; rw [(bad h).1,(bad h).2]
 case o2=>intro _ h h2; rw [openL_bad (openE_arg (good h) (by simpa using h2)) (by decide)]; rfl
 case o3=>intro _ h h2; exact (openE_arg (good h) (by simpa using h2)).symm
 case o4=>intro _ h h2; exact check_zero.1 (good h)
 case o5=>intro _ h h2 h3; rw [openL_bad (openE_none (good h) (by simpa using h2) (by simp only [decide_eq_true_eq] at h3; omega)) (by decide)]; rfl
 case o6=>intro _ h h2 h3; exact (openE_none (good h) (by simpa using h2) (by simp only [decide_eq_true_eq] at h3; omega)).symm
 case o7=>intro _ h h2 h3; rw [openL_ok (openE_ok (good h) (by simpa using h2) (by simp only [decide_eq_false_iff_not] at h3; omega))]
 case o8=>intro _ h h2 h3 i hi; rw [openL_ok (openE_ok (good h) (by simpa using h2) (by simp only [decide_eq_false_iff_not] at h3; omega))]
 case o9=>intro _ h h2 h3; exact (openE_ok (good h) (by simpa using h2) (by simp only [decide_eq_false_iff_not] at h3; omega)).symm
abbrev z81_1 (l:List WayS) (F:WayS->Span):LoopAnn:=Hint.ann (h81 l F) [(1,AV.fn 0),(4,AV.ptr 0 []),(14,aWays l),(15,iv (↑(l.length):Int))] [(0,OB.cells 37 [iv 0,iv 0])] 10088
abbrev q81_1 (l:List WayS) (F:WayS->Span) (C:Env->Prop):Prop := ∀ (E0:Env),fnokOf Try.prog 0 (fun (w:{ w:WayS // w ∈ l })=>[AV.agg (cWay (Subtype.val w))]) (fun (w:{ w:WayS // w ∈ l })=>vSpan (F (Subtype.val w))) E0->0 < l.length/\l.length<=65536->C E0
abbrev q81_2 (l:List WayS) (F:WayS->Span) (C:Env->Nat->Prop):Prop:=q81_1 l F fun E0 => ∀ (x4:Nat),x4<=l.length->decide ((x4:Int) < (↑(l.length):Int))=true->C E0 x4
theorem w81 (l:List WayS) (F:WayS->Span)
 (o0:q81_1 l F fun E0=>0 < (↑(l.length):Int))
 (o1:q81_1 l F fun E0 => ∀ (i2:Value),E0.4 0 i2->FnOK Try.prog E0 i2 [AV.agg (cWay (l.getD 0 default))] (AV.agg (cSpan (F (l.getD 0 default)))))
 (o2:q81_1 l F fun E0=>0=(↑0:Int))
 (o3:q81_1 l F fun E0=>(F (l.getD 0 default)).lo=(hullTo l F 0).lo)
 (o4:q81_1 l F fun E0=>(F (l.getD 0 default)).hi=(hullTo l F 0).hi)
 (o5:q81_1 l F fun E0=>0<=l.length)
 (o6:q81_2 l F fun E0 x4=>0<=(x4:Int))
 (o7:q81_2 l F fun E0 x4=>(x4:Int) < (↑(l.length):Int))
 (o8:q81_2 l F fun E0 x4 => ∀ (i8:Value),E0.4 0 i8->FnOK Try.prog E0 i8 [AV.agg (cWay (l.getD x4 default))] (AV.agg (cSpan (F (l.getD x4 default)))))
 (o9:q81_2 l F fun E0 x4=>inI ((x4:Int) + 1))
 (o10:q81_2 l F fun E0 x4=>(x4:Int) + 1=(↑(x4 + 1):Int))
 (o11:q81_2 l F fun E0 x4=>min (hullTo l F x4).lo (F (l.getD x4 default)).lo=(hullTo l F (x4 + 1)).lo)
 (o12:q81_2 l F fun E0 x4=>max (hullTo l F x4).hi (F (l.getD x4 default)).hi=(hullTo l F (x4 + 1)).hi)
 (o13:q81_2 l F fun E0 x4=>x4 + 1<=l.length)
 (o14:q81_2 l F fun E0 x4=>l.length - (x4 + 1) < l.length - x4)
 (o15:q81_1 l F fun E0 => ∀ (x4:Nat),x4<=l.length->decide ((x4:Int) < (↑(l.length):Int))=false->(hullTo l F x4).lo=(hullOf l F).lo)
 (o16:q81_1 l F fun E0 => ∀ (x4:Nat),x4<=l.length->decide ((x4:Int) < (↑(l.length):Int))=false->(hullTo l F x4).hi=(hullOf l F).hi) :
  Triple Try.prog 81 (s81 l F):=by
 refine triple_of Try.func81 rfl Try.call81 T0_ok _ rfl rfl rfl rfl (Nat.le_of_ble_eq_true (by kernel_rfl)) fnokOf_congr ?_
 intro hp C hC hfn hE
 obtain ⟨P,w0,E0,av,hA⟩:=C
 subst hC
 refine swp_seq ?_
 refine sQ (kt:=[0,1,4]) (kh:=[0]) (q:=True/\True) (st':=ASt.mk [(0,aWays l),(1,.fn 0),(4,.ptr 0 [])] [(0,.cells 37 [iv 0,iv 0])] 8) ⟨tv,tv⟩ ?_
 refine swp_seq ?_
 refine sC (cs:=[(4,CallSpec.eq (c81a l F) [true])]) (kt:=[0,1,4,5]) (kh:=[0,48]) (q:=True/\True/\(Int.ofNat 0<=Int.ofNat 0/\0 < (↑(l.length):Int))/\True/\((((1=1/\(l.getD 0 default).frm.length=(l.getD 0 default).frm.length /\ ∀ (i0:Nat),i0 < (l.getD 0 default).frm.length -> [iv ((l.getD 0 default).frm.getD i0 0)] = [iv ((l.getD 0 default).frm.getD i0 0)])/\zE (AV.arr 6 3 fun (m:Nat)=>[AV.arr 2 3 fun (p:Nat)=>cSpan ((l.getD 0 default).whn m p)])/\True)/\True) /\ ∀ (i2:Value),E0.4 0 i2->FnOK Try.prog E0 i2 [AV.agg (cWay (l.getD 0 default))] (AV.agg (cSpan (F (l.getD 0 default)))))/\tn 2) (st':=ASt.mk [(0,aWays l),(1,.fn 0),(4,.ptr 0 []),(5,.ptr 48 [])] [(0,.cells 37 [iv 0,iv 0]),(48,.cells 37 (cSpan (F (l.getD 0 default))))] 64) ⟨tv,tv,⟨(by decide),(o0 E0 hfn hp)⟩,tv,⟨⟨⟨⟨rfl,rfl,(fun i0=>(fun h1=>rfl))⟩,rfl,tv⟩,tv⟩,(fun i2=>(fun h3=>(o1 E0 hfn hp i2 h3)))⟩,tp 2⟩ ?_
 refine swp_seq (swp_seq ?_)
 refine sQ (kt:=[1,4,5,14,15,16]) (kh:=[0,48]) (q:=tn 3) (st':=ASt.mk [(1,.fn 0),(4,.ptr 0 []),(5,.ptr 48 []),(14,aWays l),(15,iv (↑(l.length):Int)),(16,iv 0)] [(0,.cells 37 [iv 0,iv 0]),(48,.cells 37 (cSpan (F (l.getD 0 default))))] 88) (tp 3) ?_
 refine swp_block ?_
 refine swp_loopA (z81_1 l F) (eQ hE [] [(0,.same 0),(5000,.same 48)] [1,14,15] [0] (((zT (AV.fn 0))/\(zP 0)/\(zT (aWays l))/\(zT (iv (↑(l.length):Int)))/\(zN (iv 0) (iv (↑0:Int)))/\(zP 48)/\True)/\((zT (OB.cells 37 [iv 0,iv 0]))/\(37=37/\((zN (iv (F (l.getD 0 default)).lo) (iv (hullTo l F 0).lo))/\(zN (iv (F (l.getD 0 default)).hi) (iv (hullTo l F 0).hi))/\True)/\true=true)/\True)/\T2) ⟨⟨⟨rfl,rfl⟩,⟨rfl,rfl⟩,⟨rfl,rfl⟩,⟨rfl,rfl⟩,⟨(congrArg iv (o2 E0 hfn hp)),rfl⟩,⟨rfl,rfl⟩,tv⟩,⟨⟨rfl,rfl⟩,⟨rfl,⟨⟨(congrArg iv (o3 E0 hfn hp)),rfl⟩,⟨(congrArg iv (o4 E0 hfn hp)),rfl⟩,tv⟩,rfl⟩,tv⟩,rfl,rfl⟩) (o5 E0 hfn hp) (fun (x4:Nat) hx4 => ?_)
 refine swp_seq ?_
 refine sQ (kt:=[1,4,14,15,16,5,17]) (kh:=[0,5000]) (q:=True/\True) (st':=ASt.mk [(1,.fn 0),(4,.ptr 0 []),(14,aWays l),(15,iv (↑(l.length):Int)),(16,iv (x4:Int)),(5,.ptr 5000 []),(17,bv (decide ((x4:Int) < (↑(l.length):Int))))] [(0,.cells 37 [iv 0,iv 0]),(5000,.cells 37 (cSpan (hullTo l F x4)))] 10096) ⟨tv,tv⟩ ?_
 refine swp_seq ?_
 refine swp_cond (decide ((x4:Int) < (↑(l.length):Int))) (by kernel_rfl) (fun h5 => ?_) (fun h5 => ?_)
 ·refine swp_skip (swp_seq (swp_block (swp_seq ?_)))
  refine sQ (kt:=[1,4,14,15,16,5,7]) (kh:=[0,5000,10112]) (q:=(0<=(x4:Int)/\(x4:Int) < (↑(l.length):Int))/\tn 3) (st':=ASt.mk [(1,.fn 0),(4,.ptr 0 []),(14,aWays l),(15,iv (↑(l.length):Int)),(16,iv (x4:Int)),(5,.ptr 5000 []),(7,.ptr 10112 [])] [(0,.cells 37 [iv 0,iv 0]),(5000,.cells 37 (cSpan (hullTo l F x4))),(10112,.cells 107 (cWay (l.getD x4 default)))] 10128) ⟨⟨(o6 E0 hfn hp x4 hx4 h5),(o7 E0 hfn hp x4 hx4 h5)⟩,tp 3⟩ ?_
  refine swp_seq ?_
  refine sC (cs:=[(2,CallSpec.eq (c81b l F x4) [true])]) (kt:=[1,4,14,15,16,5,8]) (kh:=[0,5000,10152]) (q:=True/\True/\((((1=1/\(l.getD x4 default).frm.length=(l.getD x4 default).frm.length /\ ∀ (i6:Nat),i6 < (l.getD x4 default).frm.length -> [iv ((l.getD x4 default).frm.getD i6 0)] = [iv ((l.getD x4 default).frm.getD i6 0)])/\zE (AV.arr 6 3 fun (m:Nat)=>[AV.arr 2 3 fun (p:Nat)=>cSpan ((l.getD x4 default).whn m p)])/\True)/\True) /\ ∀ (i8:Value),E0.4 0 i8->FnOK Try.prog E0 i8 [AV.agg (cWay (l.getD x4 default))] (AV.agg (cSpan (F (l.getD x4 default)))))/\tn 2) (st':=ASt.mk [(1,.fn 0),(4,.ptr 0 []),(14,aWays l),(15,iv (↑(l.length):Int)),(16,iv (x4:Int)),(5,.ptr 5000 []),(8,.ptr 10152 [])] [(0,.cells 37 [iv 0,iv 0]),(5000,.cells 37 (cSpan (hullTo l F x4))),(10152,.cells 37 (cSpan (F (l.getD x4 default))))] 10168) ⟨tv,tv,⟨⟨⟨⟨rfl,rfl,(fun i6=>(fun h7=>rfl))⟩,rfl,tv⟩,tv⟩,(fun i8=>(fun h9=>(o8 E0 hfn hp x4 hx4 h5 i8 h9)))⟩,tp 2⟩ ?_
  refine sQ (kt:=[1,4,14,15,16,5]) (kh:=[0,5000]) (q:=tn 12) (st':=ASt.mk [(1,.fn 0),(4,.ptr 0 []),(14,aWays l),(15,iv (↑(l.length):Int)),(16,iv (x4:Int)),(5,.ptr 5000 [])] [(0,.cells 37 [iv 0,iv 0]),(5000,.cells 37 [iv (min (hullTo l F x4).lo (F (l.getD x4 default)).lo),iv (max (hullTo l F x4).hi (F (l.getD x4 default)).hi)])] 10264) (tp 12) ?_
  refine sQ (kt:=[1,4,14,15,16,5]) (kh:=[0,5000]) (q:=inI ((x4:Int) + 1)/\True/\True) (st':=ASt.mk [(1,.fn 0),(4,.ptr 0 []),(14,aWays l),(15,iv (↑(l.length):Int)),(16,iv ((x4:Int) + 1)),(5,.ptr 5000 [])] [(0,.cells 37 [iv 0,iv 0]),(5000,.cells 37 [iv (min (hullTo l F x4).lo (F (l.getD x4 default)).lo),iv (max (hullTo l F x4).hi (F (l.getD x4 default)).hi)])] 10280) ⟨(o9 E0 hfn hp x4 hx4 h5),tv,tv⟩ ?_
  exact loop_next (z81_1 l F) x4 (eQ hE [] [(0,.same 0),(5000,.same 5000)] [1,14,15] [0] (((zT (AV.fn 0))/\(zP 0)/\(zT (aWays l))/\(zT (iv (↑(l.length):Int)))/\(zN (iv ((x4:Int) + 1)) (iv (↑(x4 + 1):Int)))/\(zP 5000)/\True)/\((zT (OB.cells 37 [iv 0,iv 0]))/\(37=37/\((zN (iv (min (hullTo l F x4).lo (F (l.getD x4 default)).lo)) (iv (hullTo l F (x4 + 1)).lo))/\(zN (iv (max (hullTo l F x4).hi (F (l.getD x4 default)).hi)) (iv (hullTo l F (x4 + 1)).hi))/\True)/\true=true)/\True)/\T2) ⟨⟨⟨rfl,rfl⟩,⟨rfl,rfl⟩,⟨rfl,rfl⟩,⟨rfl,rfl⟩,⟨(congrArg iv (o10 E0 hfn hp x4 hx4 h5)),rfl⟩,⟨rfl,rfl⟩,tv⟩,⟨⟨rfl,rfl⟩,⟨rfl,⟨⟨(congrArg iv (o11 E0 hfn hp x4 hx4 h5)),rfl⟩,⟨(congrArg iv (o12 E0 hfn hp x4 hx4 h5)),rfl⟩,tv⟩,rfl⟩,tv⟩,rfl,rfl⟩) (o13 E0 hfn hp x4 hx4 h5) (o14 E0 hfn hp x4 hx4 h5)
 ·refine swp_exit (swp_seq ?_)
  refine sQ (kt:=[4]) (kh:=[0]) (q:=tn 2) (st':=ASt.mk [(4,.ptr 0 [])] [(0,.cells 37 (cSpan (hullTo l F x4)))] 10112) (tp 2) ?_
  refine swp_ret ?_
  exact rQ [] ((True/\True)/\((zN (iv (hullTo l F x4).lo) (iv (hullOf l F).lo))/\(zN (iv (hullTo l F x4).hi) (iv (hullOf l F).hi))/\True)/\T3) ⟨⟨tv,tv⟩,⟨⟨(congrArg iv (o15 E0 hfn hp x4 hx4 h5)),rfl⟩,⟨(congrArg iv (o16 E0 hfn hp x4 hx4 h5)),rfl⟩,tv⟩,rfl,rfl,rfl⟩
theorem t81 (l:List WayS) (F:WayS->Span):Triple Try.prog 81 (s81 l F):=by
 apply w81
 case o1=>intro E0 hfn hp u hu; exact hfn u hu ⟨_,getD_mem l default hp.1⟩
 case o8=>intro E0 hfn hp x hx hl u hu; exact hfn u hu ⟨_,getD_mem l default (by simpa using hl)⟩
 case o11=>(repeat intro _); rw [hullTo_succ]; rfl
 case o12=>(repeat intro _); rw [hullTo_succ]; rfl
 case o15=>intro E0 hfn hp x hx hl; simp only [decide_eq_false_iff_not] at hl; rw [show x=l.length by omega]; rfl
 case o16=>intro E0 hfn hp x hx hl; simp only [decide_eq_false_iff_not] at hl; rw [show x=l.length by omega]; rfl
 all_goals ((repeat intro _) <;> (try simp only [v0,v1,v2,v3,v4,v5,v6,v7,v8,v9,inI,fits,Go.Sh.small] at *) <;> first | (exact rfl) | omega | exact vz | (simp_all; done) | (simp_all; omega))
end Go.Ab
namespace Go.Sh
def whenIs (r:Run) (m p:Int):Bool:=isMachine r m && isPlate r p
end Go.Sh
namespace Go.Ab
open Go Go.RowKit Go.Proofs Go.Sh Go.En
end Go.Ab
namespace Go.Ab
open Go Go.RowKit Go.Proofs Go.Sh Go.En
end Go.Ab
namespace Go.Sh
@[reducible] def sb (s:Span):Prop:=0<=s.lo/\s.lo<=1000/\0<=s.hi/\s.hi<=1000
@[reducible] def wb (w:WayS):Prop := ∀ m p,sb (w.whn m p)
def sprIn (g:Nat->Span) (i:Nat) (h0:Int) (k:Nat):Int:=(List.range k).foldl (fun h k=>if i=k then h else max h ((g i).hi - (g k).lo)) h0
structure Spr where
 first:Int
 last:Int
 high:Int
def sprTo (g:Nat->Span) (n i:Nat):Spr:=(List.range i).foldl (fun s i=>⟨min s.first (g i).hi,max s.last (g i).lo,sprIn g i s.high n⟩) ⟨(g 0).hi,(g 0).lo,0⟩
def spread (g:Nat->Span) (n:Nat):Span:=⟨max 0 ((sprTo g n n).last - (sprTo g n n).first),(sprTo g n n).high⟩
theorem sprIn_succ (g:Nat->Span) (i:Nat) (h0:Int) (k:Nat):sprIn g i h0 (k + 1)=if i=k then sprIn g i h0 k else max (sprIn g i h0 k) ((g i).hi - (g k).lo):=Go.Ab.foldl_range_succ _ _ _
theorem sprTo_succ (g:Nat->Span) (n i:Nat):sprTo g n (i + 1)=⟨min (sprTo g n i).first (g i).hi,max (sprTo g n i).last (g i).lo,sprIn g i (sprTo g n i).high n⟩:=Go.Ab.foldl_range_succ _ _ _
@[reducible] def gb (g:Nat->Span):Prop := ∀ p,sb (g p)
theorem sprIn_b {g:Nat->Span} (h:gb g) (i:Nat) {h0:Int} (hh:0<=h0/\h0<=1000):∀ k,0<=sprIn g i h0 k/\sprIn g i h0 k<=1000:=by
 intro k
 induction k with
 | zero=>exact hh
 | succ k ih =>
  rw [sprIn_succ]
  have h1:=h i; have h2:=h k
  split <;> omega
theorem sprTo_b {g:Nat->Span} (h:gb g) (n:Nat):∀ i,0<=(sprTo g n i).first/\(sprTo g n i).first<=1000/\0<=(sprTo g n i).last/\(sprTo g n i).last<=1000/\0<=(sprTo g n i).high/\(sprTo g n i).high<=1000:=by
 intro i
 induction i with
 | zero=>have:=h 0; simp only [sprTo,List.range_zero,List.foldl_nil]; omega
 | succ i ih =>
  rw [sprTo_succ]
  have h1:=h i
  have h2:=sprIn_b h i (h0:=(sprTo g n i).high) (by omega) n
  simp only
  omega
theorem spread_b {g:Nat->Span} (h:gb g) (n:Nat):0<=(spread g n).lo/\(spread g n).lo<=1000/\0<=(spread g n).hi/\(spread g n).hi<=1000:=by
 have:=sprTo_b h n n
 simp only [spread]
 omega
def rb (r:Run):Prop:=r.machines.length<=3 /\ ∀ i,i < r.machines.length->0<=(mach r i).rate/\(mach r i).rate<=9
theorem rb_of {r:Run} (ok:Ok r):rb r:=⟨ok.machines.2,fun i hi=>(ok.mach i hi).2⟩
def sumTo (r:Run) (f:Nat->Span) (n:Nat):Span:=(List.range n).foldl (fun s m=>⟨s.lo + (mach r m).rate * (f m).lo,s.hi + (mach r m).rate * (f m).hi⟩) ⟨0,0⟩
theorem sumTo_succ (r:Run) (f:Nat->Span) (n:Nat):sumTo r f (n + 1)=⟨(sumTo r f n).lo + (mach r n).rate * (f n).lo,(sumTo r f n).hi + (mach r n).rate * (f n).hi⟩:=Go.Ab.foldl_range_succ _ _ _
theorem rate_mul {a b:Int} (h:0<=a/\a<=9) (h2:0<=b/\b<=1000):0<=a * b/\a * b<=9000 :=
 ⟨Int.mul_nonneg h.1 h2.1,by have:=Int.mul_le_mul h.2 h2.2 h2.1 (by omega:(0:Int)<=9); omega⟩
theorem sumTo_b {r:Run} (h:rb r) {f:Nat->Span} (hf:∀ m,0<=(f m).lo/\(f m).lo<=1000/\0<=(f m).hi/\(f m).hi<=1000):∀ n,n<=r.machines.length->0<=(sumTo r f n).lo/\(sumTo r f n).lo<=9000 * n/\0<=(sumTo r f n).hi/\(sumTo r f n).hi<=9000 * n:=by
 intro n
 induction n with
 | zero=>intro _; simp only [sumTo,List.range_zero,List.foldl_nil]; omega
 | succ n ih =>
  intro hn
  have h1:=ih (by omega)
  have h2:=hf n
  have h3:=h.2 n (by omega)
  have h4:=rate_mul h3 ⟨h2.1,h2.2.1⟩
  have h5:=rate_mul h3 ⟨h2.2.2.1,h2.2.2.2⟩
  rw [sumTo_succ]
  simp only
  omega
def oldF (r:Run) (p:Nat) (w:WayS):Span:=sumTo r (fun m=>w.whn m p) r.machines.length
def mixF (r:Run) (w:WayS):Span:=sumTo r (fun m=>spread (w.whn m) r.plates.toNat) r.machines.length
def oldS (r:Run) (p:Int):Span:=if openE r (isPlate r p)=0 then hullOf (waysOf r) (oldF r p.toNat) else ⟨0,0⟩
def mixesS (r:Run):Span:=if openE r true=0 then hullOf (waysOf r) (mixF r) else ⟨0,0⟩
def cnt (l:List WayS) (P:WayS->Bool) (n:Nat):Nat:=(l.take n).countP P
theorem cnt_succ {l:List WayS} {P:WayS->Bool} {n:Nat} (h:n < l.length):cnt l P (n + 1)=cnt l P n + if P (l.getD n default) then 1 else 0:=by
 unfold cnt; rw [Go.Ab.take_succ _ default h,List.countP_append,List.countP_singleton]
theorem cnt_t {l:List WayS} {P:WayS->Bool} {n:Nat} (h:n < l.length) (hp:P (l.getD n default)=true):(cnt l P n:Int) + 1=cnt l P (n + 1):=by rw [cnt_succ h,if_pos hp]; rfl
theorem cnt_f {l:List WayS} {P:WayS->Bool} {n:Nat} (h:n < l.length) (hp:P (l.getD n default)=false):(cnt l P n:Int)=cnt l P (n + 1):=by rw [cnt_succ h,hp]; rfl
theorem cnt_le (l:List WayS) (P:WayS->Bool) (n:Nat):cnt l P n<=n:=by
 unfold cnt
 exact Nat.le_trans (List.countP_le_length) (by rw [List.length_take]; omega)
def rdS (w:WayS) (f p:Nat):Span:=w.whn (w.frm.getD f 0).toNat p
def rdSo (r:Run) (f p:Nat) (w:WayS):Bool:=decide ((rdS w f p).hi<=(fnd r f).minute)
def rdNot (r:Run) (f p:Nat) (w:WayS):Bool := !rdSo r f p w && decide ((rdS w f p).lo > (fnd r f).minute)
def readIs (r:Run) (f p:Int):Bool:=isFound r f && isPlate r p
def smSo (a b:Nat) (w:WayS):Bool:=decide (w.frm.getD a 0=w.frm.getD b 0)
def sameIs (r:Run) (a b:Int):Bool:=isFound r a && isFound r b
def mxSo (r:Run) (m:Nat) (w:WayS):Bool:=decide ((spread (w.whn m) r.plates.toNat).lo > 0)
def mxNot (r:Run) (m:Nat) (w:WayS):Bool := !mxSo r m w && decide ((spread (w.whn m) r.plates.toNat).hi=0)
theorem mxNot_t {r:Run} {m:Nat} {w:WayS} (e:mxSo r m w=true):mxNot r m w=false:=by rw [mxNot,e]; rfl
theorem mxNot_f {r:Run} {m:Nat} {w:WayS} {b:Bool} (e:mxSo r m w=false) (e2:decide ((spread (w.whn m) r.plates.toNat).hi=0)=b):mxNot r m w=b:=by rw [mxNot,e,e2]; rfl
def mixedS (r:Run) (m:Int):Int:=if openE r (isMachine r m)=0 then known3 (cnt (waysOf r) (mxSo r m.toNat) (waysOf r).length) (cnt (waysOf r) (mxNot r m.toNat) (waysOf r).length) (waysOf r).length else 0
theorem sb_see {c:Fnd} (hc:0<=c.minute/\c.minute<=900) (p:Nat) {s:Span} (h:sb s):sb (seeOne c p s):=by
 unfold seeOne
 split
 ·exact ⟨by simp only; omega,by simp only; omega,h.2.2.1,h.2.2.2⟩
 ·split
  ·exact ⟨h.1,h.2.1,by simp only; omega,by simp only; omega⟩
  ·exact h
theorem wb_see (c:Fnd) (m:Nat) (hc:0<=c.minute/\c.minute<=900):∀ k p (f:Nat->Nat->Span),(∀ m p,sb (f m p)) -> ∀ j q,sb ((seeN c m k p f).2 j q):=by
 intro k
 induction k with
 | zero=>intro p f h; exact h
 | succ k ih =>
  intro p f h
  have h1:∀ j q,sb (upd2 f m p (seeOne c p (f m p)) j q):=by
   intro j q
   unfold upd2
   split
   ·split
    ·exact sb_see hc p (h m p)
    ·exact h j q
   ·exact h j q
  rw [seeN]
  split
  ·exact h1
  ·exact ih _ _ h1
theorem wb_first {r:Run} (ok:Ok r) (m p:Nat):sb (firstWhn r r.machines.length m p):=by
 unfold firstWhn
 split
 ·split
  ·have:=ok.span m (by omega) p (by omega)
   have:=ok.last
   exact ⟨by omega,by omega,by omega,by omega⟩
  ·exact ⟨by simp,by simp,by simp,by simp⟩
 ·exact ⟨by simp,by simp,by simp,by simp⟩
theorem wb_ways {r:Run} (ok:Ok r):∀ n,n<=r.found.length -> ∀ w,w ∈ waysTo r n->wb w:=by
 intro n
 induction n with
 | zero=>intro _ w h; simp [waysTo] at h; rw [h]; exact wb_first ok
 | succ n ih =>
  intro hn w h
  rw [waysTo,List.mem_flatMap] at h
  obtain ⟨v,hv,h⟩:=h
  unfold step at h
  rw [List.mem_filterMap] at h
  obtain ⟨m,_,h⟩:=h
  unfold one at h
  split at h
  ·cases h
   have:=ok.fnd n (by omega)
   have h2:=ok.last
   exact wb_see _ _ (by omega) _ _ _ (ih (by omega) v hv)
  ·cases h
theorem wb_of {r:Run} (ok:Ok r) {w:WayS} (h:w ∈ waysOf r):wb w:=wb_ways ok _ (Nat.le_refl _) w h
theorem way_frm {r:Run} {w:WayS} (h:w ∈ waysOf r):w.frm.length=r.found.length:=waysTo_frm _ _ h
theorem ways_frm {r:Run}:∀ n w,w ∈ waysTo r n -> ∀ i,i < n->w.frm.getD i 0 ∈ (fnd r i).frm:=by
 intro n
 induction n with
 | zero=>intro w _ i hi; omega
 | succ n ih =>
  intro w h i hi
  rw [waysTo,List.mem_flatMap] at h
  obtain ⟨v,hv,h⟩:=h
  have hl:=waysTo_frm n v hv
  unfold step at h
  rw [List.mem_filterMap] at h
  obtain ⟨m,hm,h⟩:=h
  unfold one at h
  split at h
  ·cases h
   show (v.frm ++ [m]).getD i 0 ∈ _
   rw [Go.Ab.getD_append]
   split
   ·exact ih v hv i (by omega)
   ·have:i=n:=by omega
    subst this
    rw [hl,Nat.sub_self]; exact hm
  ·cases h
theorem way_mach {r:Run} (ok:Ok r) {w:WayS} (h:w ∈ waysOf r) {i:Nat} (hi:i < r.found.length):0<=w.frm.getD i 0/\w.frm.getD i 0 < r.machines.length:=by
 have h1:=ways_frm _ w h i hi
 obtain ⟨k,hk,e⟩:=List.getElem_of_mem h1
 have h2:=ok.frm i hi k hk
 rw [Go.Ab.getD_lt _ _ hk,e] at h2
 exact h2
theorem openBad {r:Run} {is:Bool} (h:(!decide (openE r is=0))=true):openE r is ≠ 0:=by simpa using h
structure OpenF (r:Run) (is:Bool):Prop where
 zero:openE r is=0
 ok:Ok r
 isT:is=true
 eq:openL r is=waysOf r
 pos:0 < (openL r is).length
 len:(openL r is).length<=729
 wb:∀ w,w ∈ openL r is->wb w
 frm:∀ x,x < (openL r is).length->((openL r is).getD x default).frm.length=r.found.length
 mach:∀ x,x < (openL r is).length -> ∀ i,i < r.found.length->0<=((openL r is).getD x default).frm.getD i 0/\((openL r is).getD x default).frm.getD i 0 < r.machines.length/\r.machines.length<=3
theorem openF {r:Run} {is:Bool} (h:(!decide (openE r is=0))=false):OpenF r is:=by
 have h0:openE r is=0:=by simpa using h
 obtain ⟨h1,h2,h3,h4⟩:=openE_zero h0
 have ok:=ok_of h1
 have h5:=waysOf_bound ok
 refine ⟨h0,ok,h2,h4,by rw [h4]; exact h3,by rw [h4]; exact h5,fun w hw=>wb_of ok (by rw [h4] at hw; exact hw),fun x hx => ?_,fun x hx i hi => ?_⟩
 ·rw [h4] at hx ⊢
  exact way_frm (Go.Ab.getD_mem _ default hx)
 ·rw [h4] at hx ⊢
  have:=way_mach ok (Go.Ab.getD_mem _ default hx) hi
  exact ⟨this.1,this.2,ok.machines.2⟩
theorem machIs_ok {r:Run} {m:Int} (h:isMachine r m=true):0<=m/\m < r.machines.length:=by
 simp only [isMachine,within_iff] at h
 omega
end Go.Sh
namespace Go.Ab
open Go Go.RowKit Go.Proofs Go.Sh Go.En
def s108 (w:WayS) (m p:Nat):CallSpec:={ args:=[.agg (cWay w),iv m,iv p],res:=vSpan (spread (w.whn m) p),pre:=wb w/\m < 3/\1<=p/\p<=3 }
def h108a (w:WayS) (m p:Nat):Hint:={ X:=Nat,M:=fun i=>[(8,iv (sprTo (w.whn m) p i).first),(9,iv (sprTo (w.whn m) p i).last),(10,iv (sprTo (w.whn m) p i).high),(30,iv i)],I:=fun i=>i<=p,mu:=fun i=>p - i,x0:=(0:Nat),nx:=fun i=>i + 1 }
def h108b (w:WayS) (m p:Nat) (x:Nat):Hint:={ X:=Nat,M:=fun k=>[(10,iv (sprIn (w.whn m) x (sprTo (w.whn m) p x).high k)),(45,iv k)],I:=fun k=>k<=p,mu:=fun k=>p - k,x0:=(0:Nat),nx:=fun k=>k + 1 }
def h83 (w:WayS) (r:Run) (p:Nat):Hint:={ X:=Nat,M:=fun i=>[(10,iv i),(4,.ptr 5000 [])],H:=fun i=>[(5000,.cells 37 (cSpan (sumTo r (fun m=>w.whn m p) i)))],I:=fun i=>i<=r.machines.length,mu:=fun i=>r.machines.length - i,x0:=(0:Nat),nx:=fun i=>i + 1 }
def s117 (w:WayS) (r:Run):CallSpec:={ args:=[.agg (cWay w),.rp (cRun r)],res:=vSpan (mixF r w),pre:=rb r/\wb w/\1<=r.plates/\r.plates<=3 }
def h117 (w:WayS) (r:Run):Hint:={ X:=Nat,M:=fun i=>[(10,iv i),(3,.ptr 5000 [])],H:=fun i=>[(5000,.cells 37 (cSpan (sumTo r (fun m=>spread (w.whn m) r.plates.toNat) i)))],I:=fun i=>i<=r.machines.length,mu:=fun i=>r.machines.length - i,x0:=(0:Nat),nx:=fun i=>i + 1 }
def c117 (w:WayS) (r:Run) (i:Nat):CallSpec:=s108 w i r.plates.toNat
def s84 (r:Run) (l:List WayS):CallSpec:={ args:=[vRun r,aWays l],res:=vSpan (hullOf l (mixF r)),pre:=fits r/\rb r/\(∀ w,w ∈ l->wb w)/\1<=r.plates/\r.plates<=3/\0 < l.length/\l.length<=65536 }
def c84 (r:Run) (l:List WayS):CallSpec:=s81 l (mixF r)
def s27 (r:Run):CallSpec:={ args:=[vRun r],res := .tup [vSpan (mixesS r),iv (openE r true)],pre:=fits r }
def c27 (r:Run):CallSpec:=s84 r (openL r true)
def h31 (r:Run) (f p:Int):Hint:={ X:=Nat,M:=fun i=>[(10,iv (cnt (openL r (readIs r f p)) (rdSo r f.toNat p.toNat) i)),(11,iv (cnt (openL r (readIs r f p)) (rdNot r f.toNat p.toNat) i)),(34,iv i)],I:=fun i=>i<=(openL r (readIs r f p)).length,mu:=fun i=>(openL r (readIs r f p)).length - i,x0:=(0:Nat),nx:=fun i=>i + 1 }
def h38 (r:Run) (a b:Int):Hint:={ X:=Nat,M:=fun i=>[(10,iv (cnt (openL r (sameIs r a b)) (smSo a.toNat b.toNat) i)),(31,iv i)],I:=fun i=>i<=(openL r (sameIs r a b)).length,mu:=fun i=>(openL r (sameIs r a b)).length - i,x0:=(0:Nat),nx:=fun i=>i + 1 }
def s65 (r:Run) (m:Int):CallSpec:={ args:=[vRun r,iv m],res := .tup [iv (mixedS r m),iv (openE r (isMachine r m))],pre:=fits r }
def c65o (r:Run) (m:Int):CallSpec:=s78 r (isMachine r m)
def h65 (r:Run) (m:Int):Hint:={ X:=Nat,M:=fun i=>[(8,iv (cnt (openL r (isMachine r m)) (mxSo r m.toNat) i)),(9,iv (cnt (openL r (isMachine r m)) (mxNot r m.toNat) i)),(26,iv i)],I:=fun i=>i<=(openL r (isMachine r m)).length,mu:=fun i=>(openL r (isMachine r m)).length - i,x0:=(0:Nat),nx:=fun i=>i + 1 }
def c65 (r:Run) (m:Int) (x:Nat):CallSpec:=s108 ((openL r (isMachine r m)).getD x default) m.toNat r.plates.toNat
end Go.Ab
namespace Go.Ab
open Go Go.RowKit Go.Proofs Go.Sh Go.En
abbrev z108_1 (w:WayS) (m:Nat) (p:Nat) (x0:Nat):LoopAnn:=Hint.ann (h108b w m p x0) [(6,AV.ptr 8 []),(7,AV.win 0 [PS.fld 1,PS.idx m 6] 2 p),(28,AV.win 0 [PS.fld 1,PS.idx m 6] 2 p),(29,iv (p:Int)),(8,iv (min (sprTo (w.whn m) p x0).first (w.whn m x0).hi)),(9,iv (max (sprTo (w.whn m) p x0).last (w.whn m x0).lo)),(30,iv (x0:Int)),(12,AV.ptr 10208 []),(11,iv (x0:Int)),(43,AV.win 0 [PS.fld 1,PS.idx m 6] 2 p),(44,iv (p:Int))] [(8,OB.cells 37 [iv 0,iv 0]),(0,OB.cells 107 (cWay w)),(10208,OB.cells 37 (cSpan (w.whn m x0)))] 20336
abbrev z108_2 (w:WayS) (m:Nat) (p:Nat):LoopAnn:=Hint.ann (h108a w m p) [(6,AV.ptr 8 []),(7,AV.win 0 [PS.fld 1,PS.idx m 6] 2 p),(28,AV.win 0 [PS.fld 1,PS.idx m 6] 2 p),(29,iv (p:Int))] [(8,OB.cells 37 [iv 0,iv 0]),(0,OB.cells 107 (cWay w))] 10176
abbrev q108_1 (w:WayS) (m:Nat) (p:Nat) (C:Prop):Prop:=wb w/\m < 3/\1<=p/\p<=3->C
abbrev q108_2 (w:WayS) (m:Nat) (p:Nat) (C:Nat->Prop):Prop:=q108_1 w m p (∀ (x0:Nat),x0<=p->decide ((x0:Int) < p)=true->C x0)
abbrev q108_3 (w:WayS) (m:Nat) (p:Nat) (C:Nat->Nat->Prop):Prop:=q108_2 w m p fun x0 => ∀ (x2:Nat),x2<=p->decide ((x2:Int) < p)=true->C x0 x2
abbrev q108_4 (w:WayS) (m:Nat) (p:Nat) (C:Nat->Nat->Prop):Prop:=q108_3 w m p fun x0 x2=>(!decide ((x0:Int)=x2))->C x0 x2
abbrev q108_5 (w:WayS) (m:Nat) (p:Nat) (C:Nat->Nat->Prop):Prop:=q108_3 w m p fun x0 x2=>(!decide ((x0:Int)=x2))=false->C x0 x2
abbrev q108_6 (w:WayS) (m:Nat) (p:Nat) (C:Nat->Nat->Prop):Prop:=q108_2 w m p fun x0 => ∀ (x2:Nat),x2<=p->decide ((x2:Int) < p)=false->C x0 x2
abbrev q108_7 (w:WayS) (m:Nat) (p:Nat) (C:Nat->Prop):Prop:=q108_1 w m p (∀ (x0:Nat),x0<=p->decide ((x0:Int) < p)=false->C x0)
theorem w108 (w:WayS) (m:Nat) (p:Nat)
 (o0:q108_1 w m p (0<=(↑m:Int)))
 (o1:q108_1 w m p ((m:Int) < (↑3:Int)))
 (o2:q108_1 w m p (0<=(↑p:Int)))
 (o3:q108_1 w m p ((p:Int)<=(↑3:Int)))
 (o4:q108_1 w m p (0 < (↑p:Int)))
 (o5:q108_1 w m p (m < 3))
 (o6:q108_1 w m p (0 < (↑p:Int)))
 (o7:q108_1 w m p (m < 3))
 (o8:q108_1 w m p ((w.whn m 0).hi=(sprTo (w.whn m) p 0).first))
 (o9:q108_1 w m p ((w.whn m 0).lo=(sprTo (w.whn m) p 0).last))
 (o10:q108_1 w m p (0=(sprTo (w.whn m) p 0).high))
 (o11:q108_1 w m p (0=(↑0:Int)))
 (o12:q108_1 w m p (0<=p))
 (o13:q108_2 w m p fun x0=>0<=(x0:Int))
 (o14:q108_2 w m p fun x0=>(x0:Int) < p)
 (o15:q108_2 w m p fun x0=>m < 3)
 (o16:q108_2 w m p fun x0=>x0 < 3)
 (o17:q108_2 w m p fun x0=>(sprTo (w.whn m) p x0).high=sprIn (w.whn m) x0 (sprTo (w.whn m) p x0).high 0)
 (o18:q108_2 w m p fun x0=>0=(↑0:Int))
 (o19:q108_2 w m p fun x0=>0<=p)
 (o20:q108_3 w m p fun x0 x2=>0<=(x2:Int))
 (o21:q108_3 w m p fun x0 x2=>(x2:Int) < p)
 (o22:q108_3 w m p fun x0 x2=>m < 3)
 (o23:q108_3 w m p fun x0 x2=>x2 < 3)
 (o24:q108_4 w m p fun x0 x2=>inI ((w.whn m x0).hi - (w.whn m x2).lo))
 (o25:q108_4 w m p fun x0 x2=>inI ((x2:Int) + 1))
 (o26:q108_4 w m p fun x0 x2=>max (sprIn (w.whn m) x0 (sprTo (w.whn m) p x0).high x2) ((w.whn m x0).hi - (w.whn m x2).lo)=sprIn (w.whn m) x0 (sprTo (w.whn m) p x0).high (x2 + 1))
 (o27:q108_4 w m p fun x0 x2=>(x2:Int) + 1=(↑(x2 + 1):Int))
 (o28:q108_4 w m p fun x0 x2=>x2 + 1<=p)
 (o29:q108_4 w m p fun x0 x2=>p - (x2 + 1) < p - x2)
 (o30:q108_5 w m p fun x0 x2=>inI ((x2:Int) + 1))
 (o31:q108_5 w m p fun x0 x2=>sprIn (w.whn m) x0 (sprTo (w.whn m) p x0).high x2=sprIn (w.whn m) x0 (sprTo (w.whn m) p x0).high (x2 + 1))
 (o32:q108_5 w m p fun x0 x2=>(x2:Int) + 1=(↑(x2 + 1):Int))
 (o33:q108_5 w m p fun x0 x2=>x2 + 1<=p)
 (o34:q108_5 w m p fun x0 x2=>p - (x2 + 1) < p - x2)
 (o35:q108_6 w m p fun x0 x2=>inI ((x0:Int) + 1))
 (o36:q108_6 w m p fun x0 x2=>min (sprTo (w.whn m) p x0).first (w.whn m x0).hi=(sprTo (w.whn m) p (x0 + 1)).first)
 (o37:q108_6 w m p fun x0 x2=>max (sprTo (w.whn m) p x0).last (w.whn m x0).lo=(sprTo (w.whn m) p (x0 + 1)).last)
 (o38:q108_6 w m p fun x0 x2=>sprIn (w.whn m) x0 (sprTo (w.whn m) p x0).high x2=(sprTo (w.whn m) p (x0 + 1)).high)
 (o39:q108_6 w m p fun x0 x2=>(x0:Int) + 1=(↑(x0 + 1):Int))
 (o40:q108_6 w m p fun x0 x2=>x0 + 1<=p)
 (o41:q108_6 w m p fun x0 x2=>p - (x0 + 1) < p - x0)
 (o42:q108_7 w m p fun x0=>inI ((sprTo (w.whn m) p x0).last - (sprTo (w.whn m) p x0).first))
 (o43:q108_7 w m p fun x0=>max 0 ((sprTo (w.whn m) p x0).last - (sprTo (w.whn m) p x0).first)=(spread (w.whn m) p).lo)
 (o44:q108_7 w m p fun x0=>(sprTo (w.whn m) p x0).high=(spread (w.whn m) p).hi) :
  Triple Try.prog 108 (s108 w m p):=by
 refine triple_of Try.func108 rfl Try.call108 T0_ok _ rfl rfl rfl rfl (Nat.le_of_ble_eq_true (by kernel_rfl)) (fun _ _ _ _ h=>h) ?_
 intro hp C hC _ hE
 obtain ⟨P,w0,E0,av,hA⟩:=C
 subst hC
 refine swp_seq ?_
 refine sQ (kt:=[1,2,3,6]) (kh:=[0,8]) (q:=tn 2) (st':=ASt.mk [(1,iv (m:Int)),(2,iv (p:Int)),(3,.ptr 0 []),(6,.ptr 8 [])] [(0,.cells 107 (cWay w)),(8,.cells 37 [iv 0,iv 0])] 16) (tp 2) ?_
 refine swp_seq ?_
 refine sQ (kt:=[6,7]) (kh:=[8,0]) (q:=True/\True/\(0<=(m:Int)/\(m:Int) < (↑3:Int))/\True/\(0<=(p:Int)/\(p:Int)<=(↑3:Int))/\True/\True) (st':=ASt.mk [(6,.ptr 8 []),(7,.win 0 [PS.fld 1,PS.idx m 6] 2 p)] [(8,.cells 37 [iv 0,iv 0]),(0,.cells 107 (cWay w))] 64) ⟨tv,tv,⟨(o0 hp),(o1 hp)⟩,tv,⟨(o2 hp),(o3 hp)⟩,tv,tv⟩ ?_
 refine swp_seq ?_
 refine sQ (kt:=[6,7,8,9,10]) (kh:=[8,0]) (q:=True/\(Int.ofNat 0<=Int.ofNat 0/\0 < (p:Int))/\True/\(m < 3/\0 < 3/\True)/\True/\(Int.ofNat 0<=Int.ofNat 0/\0 < (p:Int))/\True/\(m < 3/\0 < 3/\True)/\tn 3) (st':=ASt.mk [(6,.ptr 8 []),(7,.win 0 [PS.fld 1,PS.idx m 6] 2 p),(8,iv (w.whn m 0).hi),(9,iv (w.whn m 0).lo),(10,iv 0)] [(8,.cells 37 [iv 0,iv 0]),(0,.cells 107 (cWay w))] 152) ⟨tv,⟨(by decide),(o4 hp)⟩,tv,⟨(o5 hp),(by decide),tv⟩,tv,⟨(by decide),(o6 hp)⟩,tv,⟨(o7 hp),(by decide),tv⟩,tp 3⟩ ?_
 refine swp_seq (swp_seq ?_)
 refine sQ (kt:=[6,7,8,9,10,28,29,30]) (kh:=[8,0]) (q:=tn 3) (st':=ASt.mk [(6,.ptr 8 []),(7,.win 0 [PS.fld 1,PS.idx m 6] 2 p),(8,iv (w.whn m 0).hi),(9,iv (w.whn m 0).lo),(10,iv 0),(28,.win 0 [PS.fld 1,PS.idx m 6] 2 p),(29,iv (p:Int)),(30,iv 0)] [(8,.cells 37 [iv 0,iv 0]),(0,.cells 107 (cWay w))] 176) (tp 3) ?_
 refine swp_block ?_
 refine swp_loopA (z108_2 w m p) (eQ hE [] [(8,.same 8),(0,.same 0)] [29] [8,0] (((zP 8)/\(zE (some (Src.same 0))/\zE [PS.fld 1,PS.idx m 6]/\2=2/\p=p)/\(zE (some (Src.same 0))/\zE [PS.fld 1,PS.idx m 6]/\2=2/\p=p)/\(zT (iv (p:Int)))/\(zN (iv (w.whn m 0).hi) (iv (sprTo (w.whn m) p 0).first))/\(zN (iv (w.whn m 0).lo) (iv (sprTo (w.whn m) p 0).last))/\(zN (iv 0) (iv (sprTo (w.whn m) p 0).high))/\(zN (iv 0) (iv (↑0:Int)))/\True)/\((zT (OB.cells 37 [iv 0,iv 0]))/\(zT (OB.cells 107 (cWay w)))/\True)/\T2) ⟨⟨⟨rfl,rfl⟩,⟨rfl,rfl,rfl,rfl⟩,⟨rfl,rfl,rfl,rfl⟩,⟨rfl,rfl⟩,⟨(congrArg iv (o8 hp)),rfl⟩,⟨(congrArg iv (o9 hp)),rfl⟩,⟨(congrArg iv (o10 hp)),rfl⟩,⟨(congrArg iv (o11 hp)),rfl⟩,tv⟩,⟨⟨rfl,rfl⟩,⟨rfl,rfl⟩,tv⟩,rfl,rfl⟩) (o12 hp) (fun (x0:Nat) hx0 => ?_)
 refine swp_seq ?_
 refine sQ (kt:=[6,7,28,29,8,9,10,30,31]) (kh:=[8,0]) (q:=True/\True) (st':=ASt.mk [(6,.ptr 8 []),(7,.win 0 [PS.fld 1,PS.idx m 6] 2 p),(28,.win 0 [PS.fld 1,PS.idx m 6] 2 p),(29,iv (p:Int)),(8,iv (sprTo (w.whn m) p x0).first),(9,iv (sprTo (w.whn m) p x0).last),(10,iv (sprTo (w.whn m) p x0).high),(30,iv (x0:Int)),(31,bv (decide ((x0:Int) < p)))] [(8,.cells 37 [iv 0,iv 0]),(0,.cells 107 (cWay w))] 10184) ⟨tv,tv⟩ ?_
 refine swp_seq ?_
 refine swp_cond (decide ((x0:Int) < p)) (by kernel_rfl) (fun h1 => ?_) (fun h1 => ?_)
 ·refine swp_skip (swp_seq (swp_block (swp_seq ?_)))
  refine sQ (kt:=[6,7,28,29,8,9,10,30,12,11]) (kh:=[8,0,10208]) (q:=True/\(0<=(x0:Int)/\(x0:Int) < p)/\(m < 3/\x0 < 3/\True)/\tn 3) (st':=ASt.mk [(6,.ptr 8 []),(7,.win 0 [PS.fld 1,PS.idx m 6] 2 p),(28,.win 0 [PS.fld 1,PS.idx m 6] 2 p),(29,iv (p:Int)),(8,iv (sprTo (w.whn m) p x0).first),(9,iv (sprTo (w.whn m) p x0).last),(10,iv (sprTo (w.whn m) p x0).high),(30,iv (x0:Int)),(12,.ptr 10208 []),(11,iv (x0:Int))] [(8,.cells 37 [iv 0,iv 0]),(0,.cells 107 (cWay w)),(10208,.cells 37 (cSpan (w.whn m x0)))] 10232) ⟨tv,⟨(o13 hp x0 hx0 h1),(o14 hp x0 hx0 h1)⟩,⟨(o15 hp x0 hx0 h1),(o16 hp x0 hx0 h1),tv⟩,tp 3⟩ ?_
  refine swp_seq ?_
  refine sQ (kt:=[6,7,28,29,8,9,10,30,12,11]) (kh:=[8,0,10208]) (q:=tn 10) (st':=ASt.mk [(6,.ptr 8 []),(7,.win 0 [PS.fld 1,PS.idx m 6] 2 p),(28,.win 0 [PS.fld 1,PS.idx m 6] 2 p),(29,iv (p:Int)),(8,iv (min (sprTo (w.whn m) p x0).first (w.whn m x0).hi)),(9,iv (max (sprTo (w.whn m) p x0).last (w.whn m x0).lo)),(10,iv (sprTo (w.whn m) p x0).high),(30,iv (x0:Int)),(12,.ptr 10208 []),(11,iv (x0:Int))] [(8,.cells 37 [iv 0,iv 0]),(0,.cells 107 (cWay w)),(10208,.cells 37 (cSpan (w.whn m x0)))] 10312) (tp 10) ?_
  refine swp_seq ?_
  refine sQ (kt:=[6,7,28,29,8,9,10,30,12,11,43,44,45]) (kh:=[8,0,10208]) (q:=tn 3) (st':=ASt.mk [(6,.ptr 8 []),(7,.win 0 [PS.fld 1,PS.idx m 6] 2 p),(28,.win 0 [PS.fld 1,PS.idx m 6] 2 p),(29,iv (p:Int)),(8,iv (min (sprTo (w.whn m) p x0).first (w.whn m x0).hi)),(9,iv (max (sprTo (w.whn m) p x0).last (w.whn m x0).lo)),(10,iv (sprTo (w.whn m) p x0).high),(30,iv (x0:Int)),(12,.ptr 10208 []),(11,iv (x0:Int)),(43,.win 0 [PS.fld 1,PS.idx m 6] 2 p),(44,iv (p:Int)),(45,iv 0)] [(8,.cells 37 [iv 0,iv 0]),(0,.cells 107 (cWay w)),(10208,.cells 37 (cSpan (w.whn m x0)))] 10336) (tp 3) ?_
  refine swp_block ?_
  refine swp_loopA (z108_1 w m p x0) (eQ hE [] [(8,.same 8),(0,.same 0),(10208,.same 10208)] [29,8,9,30,11,44] [8,0,10208] (((zP 8)/\(zE (some (Src.same 0))/\zE [PS.fld 1,PS.idx m 6]/\2=2/\p=p)/\(zE (some (Src.same 0))/\zE [PS.fld 1,PS.idx m 6]/\2=2/\p=p)/\(zT (iv (p:Int)))/\(zT (iv (min (sprTo (w.whn m) p x0).first (w.whn m x0).hi)))/\(zT (iv (max (sprTo (w.whn m) p x0).last (w.whn m x0).lo)))/\(zT (iv (x0:Int)))/\(zP 10208)/\(zT (iv (x0:Int)))/\(zE (some (Src.same 0))/\zE [PS.fld 1,PS.idx m 6]/\2=2/\p=p)/\(zT (iv (p:Int)))/\(zN (iv (sprTo (w.whn m) p x0).high) (iv (sprIn (w.whn m) x0 (sprTo (w.whn m) p x0).high 0)))/\(zN (iv 0) (iv (↑0:Int)))/\True)/\((zT (OB.cells 37 [iv 0,iv 0]))/\(zT (OB.cells 107 (cWay w)))/\(zT (OB.cells 37 (cSpan (w.whn m x0))))/\True)/\T2) ⟨⟨⟨rfl,rfl⟩,⟨rfl,rfl,rfl,rfl⟩,⟨rfl,rfl,rfl,rfl⟩,⟨rfl,rfl⟩,⟨rfl,rfl⟩,⟨rfl,rfl⟩,⟨rfl,rfl⟩,⟨rfl,rfl⟩,⟨rfl,rfl⟩,⟨rfl,rfl,rfl,rfl⟩,⟨rfl,rfl⟩,⟨(congrArg iv (o17 hp x0 hx0 h1)),rfl⟩,⟨(congrArg iv (o18 hp x0 hx0 h1)),rfl⟩,tv⟩,⟨⟨rfl,rfl⟩,⟨rfl,rfl⟩,⟨rfl,rfl⟩,tv⟩,rfl,rfl⟩) (o19 hp x0 hx0 h1) (fun (x2:Nat) hx2 => ?_)
  refine swp_seq ?_
  refine sQ (kt:=[6,7,28,29,8,9,30,12,11,43,44,10,45,46]) (kh:=[8,0,10208]) (q:=True/\True) (st':=ASt.mk [(6,.ptr 8 []),(7,.win 0 [PS.fld 1,PS.idx m 6] 2 p),(28,.win 0 [PS.fld 1,PS.idx m 6] 2 p),(29,iv (p:Int)),(8,iv (min (sprTo (w.whn m) p x0).first (w.whn m x0).hi)),(9,iv (max (sprTo (w.whn m) p x0).last (w.whn m x0).lo)),(30,iv (x0:Int)),(12,.ptr 10208 []),(11,iv (x0:Int)),(43,.win 0 [PS.fld 1,PS.idx m 6] 2 p),(44,iv (p:Int)),(10,iv (sprIn (w.whn m) x0 (sprTo (w.whn m) p x0).high x2)),(45,iv (x2:Int)),(46,bv (decide ((x2:Int) < p)))] [(8,.cells 37 [iv 0,iv 0]),(0,.cells 107 (cWay w)),(10208,.cells 37 (cSpan (w.whn m x0)))] 20344) ⟨tv,tv⟩ ?_
  refine swp_seq ?_
  refine swp_cond (decide ((x2:Int) < p)) (by kernel_rfl) (fun h3 => ?_) (fun h3 => ?_)
  ·refine swp_skip (swp_seq (swp_block (swp_seq ?_)))
   refine sQ (kt:=[6,7,28,29,8,9,30,12,11,43,44,10,45,14,13]) (kh:=[8,0,10208,20368]) (q:=True/\(0<=(x2:Int)/\(x2:Int) < p)/\(m < 3/\x2 < 3/\True)/\tn 3) (st':=ASt.mk [(6,.ptr 8 []),(7,.win 0 [PS.fld 1,PS.idx m 6] 2 p),(28,.win 0 [PS.fld 1,PS.idx m 6] 2 p),(29,iv (p:Int)),(8,iv (min (sprTo (w.whn m) p x0).first (w.whn m x0).hi)),(9,iv (max (sprTo (w.whn m) p x0).last (w.whn m x0).lo)),(30,iv (x0:Int)),(12,.ptr 10208 []),(11,iv (x0:Int)),(43,.win 0 [PS.fld 1,PS.idx m 6] 2 p),(44,iv (p:Int)),(10,iv (sprIn (w.whn m) x0 (sprTo (w.whn m) p x0).high x2)),(45,iv (x2:Int)),(14,.ptr 20368 []),(13,iv (x2:Int))] [(8,.cells 37 [iv 0,iv 0]),(0,.cells 107 (cWay w)),(10208,.cells 37 (cSpan (w.whn m x0))),(20368,.cells 37 (cSpan (w.whn m x2)))] 20392) ⟨tv,⟨(o20 hp x0 hx0 h1 x2 hx2 h3),(o21 hp x0 hx0 h1 x2 hx2 h3)⟩,⟨(o22 hp x0 hx0 h1 x2 hx2 h3),(o23 hp x0 hx0 h1 x2 hx2 h3),tv⟩,tp 3⟩ ?_
   refine swp_seq ?_
   refine sQ (kt:=[6,7,28,29,8,9,30,12,11,43,44,10,45,14,52]) (kh:=[8,0,10208,20368]) (q:=tn 3) (st':=ASt.mk [(6,.ptr 8 []),(7,.win 0 [PS.fld 1,PS.idx m 6] 2 p),(28,.win 0 [PS.fld 1,PS.idx m 6] 2 p),(29,iv (p:Int)),(8,iv (min (sprTo (w.whn m) p x0).first (w.whn m x0).hi)),(9,iv (max (sprTo (w.whn m) p x0).last (w.whn m x0).lo)),(30,iv (x0:Int)),(12,.ptr 10208 []),(11,iv (x0:Int)),(43,.win 0 [PS.fld 1,PS.idx m 6] 2 p),(44,iv (p:Int)),(10,iv (sprIn (w.whn m) x0 (sprTo (w.whn m) p x0).high x2)),(45,iv (x2:Int)),(14,.ptr 20368 []),(52,bv !decide ((x0:Int)=x2))] [(8,.cells 37 [iv 0,iv 0]),(0,.cells 107 (cWay w)),(10208,.cells 37 (cSpan (w.whn m x0))),(20368,.cells 37 (cSpan (w.whn m x2)))] 20416) (tp 3) ?_
   refine swp_cond (!decide ((x0:Int)=x2)) (by kernel_rfl) (fun h4 => ?_) (fun h4 => ?_)
   ·refine sQ (kt:=[6,7,28,29,8,9,30,12,11,43,44,10,45]) (kh:=[8,0,10208]) (q:=True/\True/\True/\True/\True/\inI ((w.whn m x0).hi - (w.whn m x2).lo)/\tn 2) (st':=ASt.mk [(6,.ptr 8 []),(7,.win 0 [PS.fld 1,PS.idx m 6] 2 p),(28,.win 0 [PS.fld 1,PS.idx m 6] 2 p),(29,iv (p:Int)),(8,iv (min (sprTo (w.whn m) p x0).first (w.whn m x0).hi)),(9,iv (max (sprTo (w.whn m) p x0).last (w.whn m x0).lo)),(30,iv (x0:Int)),(12,.ptr 10208 []),(11,iv (x0:Int)),(43,.win 0 [PS.fld 1,PS.idx m 6] 2 p),(44,iv (p:Int)),(10,iv (max (sprIn (w.whn m) x0 (sprTo (w.whn m) p x0).high x2) ((w.whn m x0).hi - (w.whn m x2).lo))),(45,iv (x2:Int))] [(8,.cells 37 [iv 0,iv 0]),(0,.cells 107 (cWay w)),(10208,.cells 37 (cSpan (w.whn m x0)))] 20480) ⟨tv,tv,tv,tv,tv,(o24 hp x0 hx0 h1 x2 hx2 h3 h4),tp 2⟩ ?_
    refine sQ (kt:=[6,7,28,29,8,9,30,12,11,43,44,10,45]) (kh:=[8,0,10208]) (q:=inI ((x2:Int) + 1)/\True/\True) (st':=ASt.mk [(6,.ptr 8 []),(7,.win 0 [PS.fld 1,PS.idx m 6] 2 p),(28,.win 0 [PS.fld 1,PS.idx m 6] 2 p),(29,iv (p:Int)),(8,iv (min (sprTo (w.whn m) p x0).first (w.whn m x0).hi)),(9,iv (max (sprTo (w.whn m) p x0).last (w.whn m x0).lo)),(30,iv (x0:Int)),(12,.ptr 10208 []),(11,iv (x0:Int)),(43,.win 0 [PS.fld 1,PS.idx m 6] 2 p),(44,iv (p:Int)),(10,iv (max (sprIn (w.whn m) x0 (sprTo (w.whn m) p x0).high x2) ((w.whn m x0).hi - (w.whn m x2).lo))),(45,iv ((x2:Int) + 1))] [(8,.cells 37 [iv 0,iv 0]),(0,.cells 107 (cWay w)),(10208,.cells 37 (cSpan (w.whn m x0)))] 20496) ⟨(o25 hp x0 hx0 h1 x2 hx2 h3 h4),tv,tv⟩ ?_
    exact loop_next (z108_1 w m p x0) x2 (eQ hE [] [(8,.same 8),(0,.same 0),(10208,.same 10208)] [29,8,9,30,11,44] [8,0,10208] (((zP 8)/\(zE (some (Src.same 0))/\zE [PS.fld 1,PS.idx m 6]/\2=2/\p=p)/\(zE (some (Src.same 0))/\zE [PS.fld 1,PS.idx m 6]/\2=2/\p=p)/\(zT (iv (p:Int)))/\(zT (iv (min (sprTo (w.whn m) p x0).first (w.whn m x0).hi)))/\(zT (iv (max (sprTo (w.whn m) p x0).last (w.whn m x0).lo)))/\(zT (iv (x0:Int)))/\(zP 10208)/\(zT (iv (x0:Int)))/\(zE (some (Src.same 0))/\zE [PS.fld 1,PS.idx m 6]/\2=2/\p=p)/\(zT (iv (p:Int)))/\(zN (iv (max (sprIn (w.whn m) x0 (sprTo (w.whn m) p x0).high x2) ((w.whn m x0).hi - (w.whn m x2).lo))) (iv (sprIn (w.whn m) x0 (sprTo (w.whn m) p x0).high (x2 + 1))))/\(zN (iv ((x2:Int) + 1)) (iv (↑(x2 + 1):Int)))/\True)/\((zT (OB.cells 37 [iv 0,iv 0]))/\(zT (OB.cells 107 (cWay w)))/\(zT (OB.cells 37 (cSpan (w.whn m x0))))/\True)/\T2) ⟨⟨⟨rfl,rfl⟩,⟨rfl,rfl,rfl,rfl⟩,⟨rfl,rfl,rfl,rfl⟩,⟨rfl,rfl⟩,⟨rfl,rfl⟩,⟨rfl,rfl⟩,⟨rfl,rfl⟩,⟨rfl,rfl⟩,⟨rfl,rfl⟩,⟨rfl,rfl,rfl,rfl⟩,⟨rfl,rfl⟩,⟨(congrArg iv (o26 hp x0 hx0 h1 x2 hx2 h3 h4)),rfl⟩,⟨(congrArg iv (o27 hp x0 hx0 h1 x2 hx2 h3 h4)),rfl⟩,tv⟩,⟨⟨rfl,rfl⟩,⟨rfl,rfl⟩,⟨rfl,rfl⟩,tv⟩,rfl,rfl⟩) (o28 hp x0 hx0 h1 x2 hx2 h3 h4) (o29 hp x0 hx0 h1 x2 hx2 h3 h4)
   ·refine swp_skip ?_
    refine sQ (kt:=[6,7,28,29,8,9,30,12,11,43,44,10,45]) (kh:=[8,0,10208]) (q:=inI ((x2:Int) + 1)/\True/\True) (st':=ASt.mk [(6,.ptr 8 []),(7,.win 0 [PS.fld 1,PS.idx m 6] 2 p),(28,.win 0 [PS.fld 1,PS.idx m 6] 2 p),(29,iv (p:Int)),(8,iv (min (sprTo (w.whn m) p x0).first (w.whn m x0).hi)),(9,iv (max (sprTo (w.whn m) p x0).last (w.whn m x0).lo)),(30,iv (x0:Int)),(12,.ptr 10208 []),(11,iv (x0:Int)),(43,.win 0 [PS.fld 1,PS.idx m 6] 2 p),(44,iv (p:Int)),(10,iv (sprIn (w.whn m) x0 (sprTo (w.whn m) p x0).high x2)),(45,iv ((x2:Int) + 1))] [(8,.cells 37 [iv 0,iv 0]),(0,.cells 107 (cWay w)),(10208,.cells 37 (cSpan (w.whn m x0)))] 20432) ⟨(o30 hp x0 hx0 h1 x2 hx2 h3 h4),tv,tv⟩ ?_
    exact loop_next (z108_1 w m p x0) x2 (eQ hE [] [(8,.same 8),(0,.same 0),(10208,.same 10208)] [29,8,9,30,11,44] [8,0,10208] (((zP 8)/\(zE (some (Src.same 0))/\zE [PS.fld 1,PS.idx m 6]/\2=2/\p=p)/\(zE (some (Src.same 0))/\zE [PS.fld 1,PS.idx m 6]/\2=2/\p=p)/\(zT (iv (p:Int)))/\(zT (iv (min (sprTo (w.whn m) p x0).first (w.whn m x0).hi)))/\(zT (iv (max (sprTo (w.whn m) p x0).last (w.whn m x0).lo)))/\(zT (iv (x0:Int)))/\(zP 10208)/\(zT (iv (x0:Int)))/\(zE (some (Src.same 0))/\zE [PS.fld 1,PS.idx m 6]/\2=2/\p=p)/\(zT (iv (p:Int)))/\(zN (iv (sprIn (w.whn m) x0 (sprTo (w.whn m) p x0).high x2)) (iv (sprIn (w.whn m) x0 (sprTo (w.whn m) p x0).high (x2 + 1))))/\(zN (iv ((x2:Int) + 1)) (iv (↑(x2 + 1):Int)))/\True)/\((zT (OB.cells 37 [iv 0,iv 0]))/\(zT (OB.cells 107 (cWay w)))/\(zT (OB.cells 37 (cSpan (w.whn m x0))))/\True)/\T2) ⟨⟨⟨rfl,rfl⟩,⟨rfl,rfl,rfl,rfl⟩,⟨rfl,rfl,rfl,rfl⟩,⟨rfl,rfl⟩,⟨rfl,rfl⟩,⟨rfl,rfl⟩,⟨rfl,rfl⟩,⟨rfl,rfl⟩,⟨rfl,rfl⟩,⟨rfl,rfl,rfl,rfl⟩,⟨rfl,rfl⟩,⟨(congrArg iv (o31 hp x0 hx0 h1 x2 hx2 h3 h4)),rfl⟩,⟨(congrArg iv (o32 hp x0 hx0 h1 x2 hx2 h3 h4)),rfl⟩,tv⟩,⟨⟨rfl,rfl⟩,⟨rfl,rfl⟩,⟨rfl,rfl⟩,tv⟩,rfl,rfl⟩) (o33 hp x0 hx0 h1 x2 hx2 h3 h4) (o34 hp x0 hx0 h1 x2 hx2 h3 h4)
  ·refine swp_exit ?_
   refine sQ (kt:=[6,7,28,29,8,9,30,10]) (kh:=[8,0]) (q:=inI ((x0:Int) + 1)/\True/\True) (st':=ASt.mk [(6,.ptr 8 []),(7,.win 0 [PS.fld 1,PS.idx m 6] 2 p),(28,.win 0 [PS.fld 1,PS.idx m 6] 2 p),(29,iv (p:Int)),(8,iv (min (sprTo (w.whn m) p x0).first (w.whn m x0).hi)),(9,iv (max (sprTo (w.whn m) p x0).last (w.whn m x0).lo)),(30,iv ((x0:Int) + 1)),(10,iv (sprIn (w.whn m) x0 (sprTo (w.whn m) p x0).high x2))] [(8,.cells 37 [iv 0,iv 0]),(0,.cells 107 (cWay w))] 20360) ⟨(o35 hp x0 hx0 h1 x2 hx2 h3),tv,tv⟩ ?_
   exact loop_next (z108_2 w m p) x0 (eQ hE [] [(8,.same 8),(0,.same 0)] [29] [8,0] (((zP 8)/\(zE (some (Src.same 0))/\zE [PS.fld 1,PS.idx m 6]/\2=2/\p=p)/\(zE (some (Src.same 0))/\zE [PS.fld 1,PS.idx m 6]/\2=2/\p=p)/\(zT (iv (p:Int)))/\(zN (iv (min (sprTo (w.whn m) p x0).first (w.whn m x0).hi)) (iv (sprTo (w.whn m) p (x0 + 1)).first))/\(zN (iv (max (sprTo (w.whn m) p x0).last (w.whn m x0).lo)) (iv (sprTo (w.whn m) p (x0 + 1)).last))/\(zN (iv (sprIn (w.whn m) x0 (sprTo (w.whn m) p x0).high x2)) (iv (sprTo (w.whn m) p (x0 + 1)).high))/\(zN (iv ((x0:Int) + 1)) (iv (↑(x0 + 1):Int)))/\True)/\((zT (OB.cells 37 [iv 0,iv 0]))/\(zT (OB.cells 107 (cWay w)))/\True)/\T2) ⟨⟨⟨rfl,rfl⟩,⟨rfl,rfl,rfl,rfl⟩,⟨rfl,rfl,rfl,rfl⟩,⟨rfl,rfl⟩,⟨(congrArg iv (o36 hp x0 hx0 h1 x2 hx2 h3)),rfl⟩,⟨(congrArg iv (o37 hp x0 hx0 h1 x2 hx2 h3)),rfl⟩,⟨(congrArg iv (o38 hp x0 hx0 h1 x2 hx2 h3)),rfl⟩,⟨(congrArg iv (o39 hp x0 hx0 h1 x2 hx2 h3)),rfl⟩,tv⟩,⟨⟨rfl,rfl⟩,⟨rfl,rfl⟩,tv⟩,rfl,rfl⟩) (o40 hp x0 hx0 h1 x2 hx2 h3) (o41 hp x0 hx0 h1 x2 hx2 h3)
 ·refine swp_exit (swp_seq ?_)
  refine sQ (kt:=[6]) (kh:=[8]) (q:=True/\True/\inI ((sprTo (w.whn m) p x0).last - (sprTo (w.whn m) p x0).first)/\tn 4) (st':=ASt.mk [(6,.ptr 8 [])] [(8,.cells 37 [iv (max 0 ((sprTo (w.whn m) p x0).last - (sprTo (w.whn m) p x0).first)),iv (sprTo (w.whn m) p x0).high])] 10240) ⟨tv,tv,(o42 hp x0 hx0 h1),tp 4⟩ ?_
  refine swp_ret ?_
  exact rQ [] ((True/\True)/\((zN (iv (max 0 ((sprTo (w.whn m) p x0).last - (sprTo (w.whn m) p x0).first))) (iv (spread (w.whn m) p).lo))/\(zN (iv (sprTo (w.whn m) p x0).high) (iv (spread (w.whn m) p).hi))/\True)/\T3) ⟨⟨tv,tv⟩,⟨⟨(congrArg iv (o43 hp x0 hx0 h1)),rfl⟩,⟨(congrArg iv (o44 hp x0 hx0 h1)),rfl⟩,tv⟩,rfl,rfl,rfl⟩
theorem t108 (w:WayS) (m p:Nat):Triple Try.prog 108 (s108 w m p):=by
 have gbw:wb w->gb (w.whn m):=fun h p=>h m p
 apply w108
 all_goals (first
  | ((repeat intro _) <;> (try simp only [v0,v1,v2,v3,v4,v5,v6,v7,v8,v9,inI,fits,Go.Sh.small] at *) <;> first | (exact rfl) | omega | exact vz | (simp_all; done) | (simp_all; omega))
  | (intro hp x hx hl; have h1:=hp.1 m x; have h2:=sprTo_b (gbw hp.1) p x; simp only [sb] at h1; simp only [decide_eq_true_eq,decide_eq_false_iff_not,inI] at *; omega)
  | (intro hp x hx hl k hk hkl h; have h1:=hp.1 m x; have h2:=hp.1 m k; simp only [sb] at h1 h2; simp only [inI]; omega)
  | (intro hp x hx hl k hk hkl h; rw [sprIn_succ,if_neg (show ¬ x=k from fun e=>by simp [e] at h)]; done)
  | (intro hp x hx hl k hk hkl h; rw [sprIn_succ,if_pos (show x=k from by simp only [Bool.not_eq_false',decide_eq_true_eq] at h; omega)]; done)
  | (intro hp x hx hl k hk hkl; rw [sprTo_succ,show k=p by simp only [decide_eq_false_iff_not] at hkl; omega]; done)
  | (intro hp x hx hl k hk hkl; rw [sprTo_succ]; done)
  | (intro hp x hx hl; rw [show x=p by simp only [decide_eq_false_iff_not] at hl; omega] <;> rfl))
abbrev z117_1 (w:WayS) (r:Run):LoopAnn:=Hint.ann (h117 w r) [(1,AV.rp (cRun r)),(2,AV.ptr 0 []),(8,AV.sl 2 r.machines.length fun (i:Nat)=>cMach (mach r i)),(9,iv (↑(r.machines.length):Int))] [(0,OB.cells 107 (cWay w))] 10048
abbrev q117_1 (w:WayS) (r:Run) (C:Prop):Prop:=rb r/\wb w/\1<=r.plates/\r.plates<=3->C
abbrev q117_2 (w:WayS) (r:Run) (C:Nat->Prop):Prop:=q117_1 w r (∀ (x0:Nat),x0<=r.machines.length->decide ((x0:Int) < (↑(r.machines.length):Int))=true->C x0)
theorem w117 (w:WayS) (r:Run)
 (o0:q117_1 w r (0=(↑0:Int)))
 (o1:q117_1 w r (0=(sumTo r (fun (m:Nat)=>spread (w.whn m) r.plates.toNat) 0).lo))
 (o2:q117_1 w r (0=(sumTo r (fun (m:Nat)=>spread (w.whn m) r.plates.toNat) 0).hi))
 (o3:q117_1 w r (0<=r.machines.length))
 (o4:q117_2 w r fun x0=>0<=(x0:Int))
 (o5:q117_2 w r fun x0=>(x0:Int) < (↑(r.machines.length):Int))
 (o6:q117_2 w r fun x0=>r.plates=(↑(r.plates.toNat):Int))
 (o7:q117_2 w r fun x0=>wb w)
 (o8:q117_2 w r fun x0=>x0 < 3)
 (o9:q117_2 w r fun x0=>1<=r.plates.toNat)
 (o10:q117_2 w r fun x0=>r.plates.toNat<=3)
 (o11:q117_2 w r fun x0=>inI ((mach r x0).rate * (spread (w.whn x0) r.plates.toNat).lo))
 (o12:q117_2 w r fun x0=>inI ((sumTo r (fun (m:Nat)=>spread (w.whn m) r.plates.toNat) x0).lo + (mach r x0).rate * (spread (w.whn x0) r.plates.toNat).lo))
 (o13:q117_2 w r fun x0=>inI ((mach r x0).rate * (spread (w.whn x0) r.plates.toNat).hi))
 (o14:q117_2 w r fun x0=>inI ((sumTo r (fun (m:Nat)=>spread (w.whn m) r.plates.toNat) x0).hi + (mach r x0).rate * (spread (w.whn x0) r.plates.toNat).hi))
 (o15:q117_2 w r fun x0=>inI ((x0:Int) + 1))
 (o16:q117_2 w r fun x0=>(x0:Int) + 1=(↑(x0 + 1):Int))
 (o17:q117_2 w r fun x0=>(sumTo r (fun (m:Nat)=>spread (w.whn m) r.plates.toNat) x0).lo + (mach r x0).rate * (spread (w.whn x0) r.plates.toNat).lo=(sumTo r (fun (m:Nat)=>spread (w.whn m) r.plates.toNat) (x0 + 1)).lo)
 (o18:q117_2 w r fun x0=>(sumTo r (fun (m:Nat)=>spread (w.whn m) r.plates.toNat) x0).hi + (mach r x0).rate * (spread (w.whn x0) r.plates.toNat).hi=(sumTo r (fun (m:Nat)=>spread (w.whn m) r.plates.toNat) (x0 + 1)).hi)
 (o19:q117_2 w r fun x0=>x0 + 1<=r.machines.length)
 (o20:q117_2 w r fun x0=>r.machines.length - (x0 + 1) < r.machines.length - x0)
 (o21:q117_1 w r (∀ (x0:Nat),x0<=r.machines.length->decide ((x0:Int) < (↑(r.machines.length):Int))=false->(sumTo r (fun (m:Nat)=>spread (w.whn m) r.plates.toNat) x0).lo=(mixF r w).lo))
 (o22:q117_1 w r (∀ (x0:Nat),x0<=r.machines.length->decide ((x0:Int) < (↑(r.machines.length):Int))=false->(sumTo r (fun (m:Nat)=>spread (w.whn m) r.plates.toNat) x0).hi=(mixF r w).hi)) :
  Triple Try.prog 117 (s117 w r):=by
 refine triple_of Try.func117 rfl Try.call117 T0_ok _ rfl rfl rfl rfl (Nat.le_of_ble_eq_true (by kernel_rfl)) (fun _ _ _ _ h=>h) ?_
 intro hp C hC _ hE
 obtain ⟨P,w0,E0,av,hA⟩:=C
 subst hC
 refine swp_seq ?_
 refine sQ (kt:=[1,2,3]) (kh:=[0,8]) (q:=tn 2) (st':=ASt.mk [(1,.rp (cRun r)),(2,.ptr 0 []),(3,.ptr 8 [])] [(0,.cells 107 (cWay w)),(8,.cells 37 [iv 0,iv 0])] 16) (tp 2) ?_
 refine swp_seq (swp_seq ?_)
 refine sQ (kt:=[1,2,3,8,9,10]) (kh:=[0,8]) (q:=tn 4) (st':=ASt.mk [(1,.rp (cRun r)),(2,.ptr 0 []),(3,.ptr 8 []),(8,.sl 2 r.machines.length fun (i:Nat)=>cMach (mach r i)),(9,iv (↑(r.machines.length):Int)),(10,iv 0)] [(0,.cells 107 (cWay w)),(8,.cells 37 [iv 0,iv 0])] 48) (tp 4) ?_
 refine swp_block ?_
 refine swp_loopA (z117_1 w r) (eQ hE [] [(0,.same 0),(5000,.same 8)] [1,8,9] [0] (((zT (AV.rp (cRun r)))/\(zP 0)/\(zT (AV.sl 2 r.machines.length fun (i:Nat)=>cMach (mach r i)))/\(zT (iv (↑(r.machines.length):Int)))/\(zN (iv 0) (iv (↑0:Int)))/\(zP 8)/\True)/\((zT (OB.cells 107 (cWay w)))/\(37=37/\((zN (iv 0) (iv (sumTo r (fun (m:Nat)=>spread (w.whn m) r.plates.toNat) 0).lo))/\(zN (iv 0) (iv (sumTo r (fun (m:Nat)=>spread (w.whn m) r.plates.toNat) 0).hi))/\True)/\true=true)/\True)/\T2) ⟨⟨⟨rfl,rfl⟩,⟨rfl,rfl⟩,⟨rfl,rfl⟩,⟨rfl,rfl⟩,⟨(congrArg iv (o0 hp)),rfl⟩,⟨rfl,rfl⟩,tv⟩,⟨⟨rfl,rfl⟩,⟨rfl,⟨⟨(congrArg iv (o1 hp)),rfl⟩,⟨(congrArg iv (o2 hp)),rfl⟩,tv⟩,rfl⟩,tv⟩,rfl,rfl⟩) (o3 hp) (fun (x0:Nat) hx0 => ?_)
 refine swp_seq ?_
 refine sQ (kt:=[1,2,8,9,10,3,11]) (kh:=[0,5000]) (q:=True/\True) (st':=ASt.mk [(1,.rp (cRun r)),(2,.ptr 0 []),(8,.sl 2 r.machines.length fun (i:Nat)=>cMach (mach r i)),(9,iv (↑(r.machines.length):Int)),(10,iv (x0:Int)),(3,.ptr 5000 []),(11,bv (decide ((x0:Int) < (↑(r.machines.length):Int))))] [(0,.cells 107 (cWay w)),(5000,.cells 37 (cSpan (sumTo r (fun (m:Nat)=>spread (w.whn m) r.plates.toNat) x0)))] 10056) ⟨tv,tv⟩ ?_
 refine swp_seq ?_
 refine swp_cond (decide ((x0:Int) < (↑(r.machines.length):Int))) (by kernel_rfl) (fun h1 => ?_) (fun h1 => ?_)
 ·refine swp_skip (swp_seq (swp_block (swp_seq ?_)))
  refine sQ (kt:=[1,2,8,9,10,3,5,4]) (kh:=[0,5000,10080]) (q:=True/\(0<=(x0:Int)/\(x0:Int) < (↑(r.machines.length):Int))/\tn 4) (st':=ASt.mk [(1,.rp (cRun r)),(2,.ptr 0 []),(8,.sl 2 r.machines.length fun (i:Nat)=>cMach (mach r i)),(9,iv (↑(r.machines.length):Int)),(10,iv (x0:Int)),(3,.ptr 5000 []),(5,.ptr 10080 []),(4,iv (x0:Int))] [(0,.cells 107 (cWay w)),(5000,.cells 37 (cSpan (sumTo r (fun (m:Nat)=>spread (w.whn m) r.plates.toNat) x0))),(10080,.cells 42 (cMach (mach r x0)))] 10104) ⟨tv,⟨(o4 hp x0 hx0 h1),(o5 hp x0 hx0 h1)⟩,tp 4⟩ ?_
  refine swp_seq ?_
  refine sC (cs:=[(4,CallSpec.eq (c117 w r x0) [true,true,false])]) (kt:=[1,2,8,9,10,3,5,6]) (kh:=[0,5000,10080,10144]) (q:=True/\True/\True/\True/\((zE (AV.agg (cWay w))/\zE (iv (x0:Int))/\iv r.plates=iv (↑(r.plates.toNat):Int)/\True)/\Triple Try.prog 108 (c117 w r x0)/\(wb w/\x0 < 3/\1<=r.plates.toNat/\r.plates.toNat<=3)/\True /\ ∀ (i2:Env),True)/\tn 2) (st':=ASt.mk [(1,.rp (cRun r)),(2,.ptr 0 []),(8,.sl 2 r.machines.length fun (i:Nat)=>cMach (mach r i)),(9,iv (↑(r.machines.length):Int)),(10,iv (x0:Int)),(3,.ptr 5000 []),(5,.ptr 10080 []),(6,.ptr 10144 [])] [(0,.cells 107 (cWay w)),(5000,.cells 37 (cSpan (sumTo r (fun (m:Nat)=>spread (w.whn m) r.plates.toNat) x0))),(10080,.cells 42 (cMach (mach r x0))),(10144,.cells 37 (cSpan (spread (w.whn x0) r.plates.toNat)))] 10160) ⟨tv,tv,tv,tv,⟨⟨rfl,rfl,(congrArg iv (o6 hp x0 hx0 h1)),tv⟩,(t108 _ _ _),⟨(o7 hp x0 hx0 h1),(o8 hp x0 hx0 h1),(o9 hp x0 hx0 h1),(o10 hp x0 hx0 h1)⟩,tv,(fun i2=>tv)⟩,tp 2⟩ ?_
  refine swp_seq ?_
  refine sQ (kt:=[1,2,8,9,10,3,5,6]) (kh:=[0,5000,10080,10144]) (q:=True/\True/\True/\True/\True/\True/\inI ((mach r x0).rate * (spread (w.whn x0) r.plates.toNat).lo)/\inI ((sumTo r (fun (m:Nat)=>spread (w.whn m) r.plates.toNat) x0).lo + (mach r x0).rate * (spread (w.whn x0) r.plates.toNat).lo)/\tn 2) (st':=ASt.mk [(1,.rp (cRun r)),(2,.ptr 0 []),(8,.sl 2 r.machines.length fun (i:Nat)=>cMach (mach r i)),(9,iv (↑(r.machines.length):Int)),(10,iv (x0:Int)),(3,.ptr 5000 []),(5,.ptr 10080 []),(6,.ptr 10144 [])] [(0,.cells 107 (cWay w)),(5000,.cells 37 [iv ((sumTo r (fun (m:Nat)=>spread (w.whn m) r.plates.toNat) x0).lo + (mach r x0).rate * (spread (w.whn x0) r.plates.toNat).lo),iv (sumTo r (fun (m:Nat)=>spread (w.whn m) r.plates.toNat) x0).hi]),(10080,.cells 42 (cMach (mach r x0))),(10144,.cells 37 (cSpan (spread (w.whn x0) r.plates.toNat)))] 10240) ⟨tv,tv,tv,tv,tv,tv,(o11 hp x0 hx0 h1),(o12 hp x0 hx0 h1),tp 2⟩ ?_
  refine sQ (kt:=[1,2,8,9,10,3]) (kh:=[0,5000]) (q:=True/\True/\True/\True/\True/\True/\inI ((mach r x0).rate * (spread (w.whn x0) r.plates.toNat).hi)/\inI ((sumTo r (fun (m:Nat)=>spread (w.whn m) r.plates.toNat) x0).hi + (mach r x0).rate * (spread (w.whn x0) r.plates.toNat).hi)/\tn 2) (st':=ASt.mk [(1,.rp (cRun r)),(2,.ptr 0 []),(8,.sl 2 r.machines.length fun (i:Nat)=>cMach (mach r i)),(9,iv (↑(r.machines.length):Int)),(10,iv (x0:Int)),(3,.ptr 5000 [])] [(0,.cells 107 (cWay w)),(5000,.cells 37 [iv ((sumTo r (fun (m:Nat)=>spread (w.whn m) r.plates.toNat) x0).lo + (mach r x0).rate * (spread (w.whn x0) r.plates.toNat).lo),iv ((sumTo r (fun (m:Nat)=>spread (w.whn m) r.plates.toNat) x0).hi + (mach r x0).rate * (spread (w.whn x0) r.plates.toNat).hi)])] 10320) ⟨tv,tv,tv,tv,tv,tv,(o13 hp x0 hx0 h1),(o14 hp x0 hx0 h1),tp 2⟩ ?_
  refine sQ (kt:=[1,2,8,9,10,3]) (kh:=[0,5000]) (q:=inI ((x0:Int) + 1)/\True/\True) (st':=ASt.mk [(1,.rp (cRun r)),(2,.ptr 0 []),(8,.sl 2 r.machines.length fun (i:Nat)=>cMach (mach r i)),(9,iv (↑(r.machines.length):Int)),(10,iv ((x0:Int) + 1)),(3,.ptr 5000 [])] [(0,.cells 107 (cWay w)),(5000,.cells 37 [iv ((sumTo r (fun (m:Nat)=>spread (w.whn m) r.plates.toNat) x0).lo + (mach r x0).rate * (spread (w.whn x0) r.plates.toNat).lo),iv ((sumTo r (fun (m:Nat)=>spread (w.whn m) r.plates.toNat) x0).hi + (mach r x0).rate * (spread (w.whn x0) r.plates.toNat).hi)])] 10336) ⟨(o15 hp x0 hx0 h1),tv,tv⟩ ?_
  exact loop_next (z117_1 w r) x0 (eQ hE [] [(0,.same 0),(5000,.same 5000)] [1,8,9] [0] (((zT (AV.rp (cRun r)))/\(zP 0)/\(zT (AV.sl 2 r.machines.length fun (i:Nat)=>cMach (mach r i)))/\(zT (iv (↑(r.machines.length):Int)))/\(zN (iv ((x0:Int) + 1)) (iv (↑(x0 + 1):Int)))/\(zP 5000)/\True)/\((zT (OB.cells 107 (cWay w)))/\(37=37/\((zN (iv ((sumTo r (fun (m:Nat)=>spread (w.whn m) r.plates.toNat) x0).lo + (mach r x0).rate * (spread (w.whn x0) r.plates.toNat).lo)) (iv (sumTo r (fun (m:Nat)=>spread (w.whn m) r.plates.toNat) (x0 + 1)).lo))/\(zN (iv ((sumTo r (fun (m:Nat)=>spread (w.whn m) r.plates.toNat) x0).hi + (mach r x0).rate * (spread (w.whn x0) r.plates.toNat).hi)) (iv (sumTo r (fun (m:Nat)=>spread (w.whn m) r.plates.toNat) (x0 + 1)).hi))/\True)/\true=true)/\True)/\T2) ⟨⟨⟨rfl,rfl⟩,⟨rfl,rfl⟩,⟨rfl,rfl⟩,⟨rfl,rfl⟩,⟨(congrArg iv (o16 hp x0 hx0 h1)),rfl⟩,⟨rfl,rfl⟩,tv⟩,⟨⟨rfl,rfl⟩,⟨rfl,⟨⟨(congrArg iv (o17 hp x0 hx0 h1)),rfl⟩,⟨(congrArg iv (o18 hp x0 hx0 h1)),rfl⟩,tv⟩,rfl⟩,tv⟩,rfl,rfl⟩) (o19 hp x0 hx0 h1) (o20 hp x0 hx0 h1)
 ·refine swp_exit (swp_seq ?_)
  refine sQ (kt:=[3]) (kh:=[5000]) (q:=tn 2) (st':=ASt.mk [(3,.ptr 5000 [])] [(5000,.cells 37 (cSpan (sumTo r (fun (m:Nat)=>spread (w.whn m) r.plates.toNat) x0)))] 10072) (tp 2) ?_
  refine swp_ret ?_
  exact rQ [] ((True/\True)/\((zN (iv (sumTo r (fun (m:Nat)=>spread (w.whn m) r.plates.toNat) x0).lo) (iv (mixF r w).lo))/\(zN (iv (sumTo r (fun (m:Nat)=>spread (w.whn m) r.plates.toNat) x0).hi) (iv (mixF r w).hi))/\True)/\T3) ⟨⟨tv,tv⟩,⟨⟨(congrArg iv (o21 hp x0 hx0 h1)),rfl⟩,⟨(congrArg iv (o22 hp x0 hx0 h1)),rfl⟩,tv⟩,rfl,rfl,rfl⟩
theorem t117 (w:WayS) (r:Run):Triple Try.prog 117 (s117 w r):=by
 apply w117
 all_goals (try (first | (((repeat intro _) <;> (try simp only [v0,v1,v2,v3,v4,v5,v6,v7,v8,v9,inI,fits,Go.Sh.small] at *) <;> first | (exact rfl) | omega | exact vz | (simp_all; done) | (simp_all; omega))) | (intro hp _ _ _; exact hp.2.1) | ((repeat intro _); rw [sumTo_succ]; done) | (intro hp x hx hl; rw [show x=r.machines.length by simp only [decide_eq_false_iff_not] at hl; omega] <;> rfl) | (
  intro hp x hx hl
  simp only [decide_eq_true_eq] at hl
  have h1:=spread_b (g:=w.whn x) (fun q=>hp.2.1 x q) r.plates.toNat
  have h2:=sumTo_b hp.1 (f:=fun m=>spread (w.whn m) r.plates.toNat) (fun m=>spread_b (fun q=>hp.2.1 m q) _) x (by omega)
  have h3:=hp.1.2 x (by omega)
  have h4:=rate_mul h3 ⟨h1.1,h1.2.1⟩
  have h5:=rate_mul h3 ⟨h1.2.2.1,h1.2.2.2⟩
  have h6:=hp.1.1
  try simp only [inI]
  omega)))
abbrev q84_1 (r:Run) (l:List WayS) (C:Prop):Prop:=fits r/\rb r/\(∀ (w:WayS),w ∈ l->wb w)/\1<=r.plates/\r.plates<=3/\0 < l.length/\l.length<=65536->C
theorem w84 (r:Run) (l:List WayS)
 (o0:q84_1 r l (0 < l.length))
 (o1:q84_1 r l (l.length<=65536))
 (o2:∀ (E0:Env),fits r/\rb r/\(∀ (w:WayS),w ∈ l->wb w)/\1<=r.plates/\r.plates<=3/\0 < l.length/\l.length<=65536 -> ∀ (i0:Env) (i1:List Value),Env.le E0 i0->i1.length=List.length [aWays l,AV.fn 0]->(∀ (k:Nat),Rel i0 true (List.getD [aWays l,AV.clo 117 [AV.rp (cRun r)]] k AV.any) (i1.getD k undef))->fnokOf Try.prog 0 (fun (w:{ w:WayS // w ∈ l })=>[AV.agg (cWay (Subtype.val w))]) (fun (w:{ w:WayS // w ∈ l })=>vSpan (mixF r (Subtype.val w))) (Env.mk i0.1 i0.2 i0.3 fun (k:Nat) (u:Value) => ∃ (i:Nat),[aWays l,AV.fn 0][i]? = some (AV.fn k)/\i1[i]? = some u)) :
  Triple Try.prog 84 (s84 r l):=by
 refine triple_of Try.func84 rfl Try.call84 T0_ok _ rfl rfl rfl rfl (Nat.le_of_ble_eq_true (by kernel_rfl)) (fun _ _ _ _ h=>h) ?_
 intro hp C hC _ hE
 obtain ⟨P,w0,E0,av,hA⟩:=C
 subst hC
 refine swp_seq ?_
 refine sQ (kt:=[1,2,4]) (kh:=[0,8]) (q:=tn 2) (st':=ASt.mk [(1,aWays l),(2,.ptr 0 []),(4,.ptr 8 [])] [(0,.cells 25 (cRun r)),(8,.cells 37 [iv 0,iv 0])] 16) (tp 2) ?_
 refine swp_seq ?_
 refine swp_ent (ent_fz 0 25 (cRun r) (ASt.mk [(1,aWays l),(2,AV.rp (cRun r)),(4,AV.ptr 8 [])] [(8,OB.cells 37 [iv 0,iv 0])] 16) (by kernel_rfl) (by kernel_rfl) (by kernel_rfl)) ?_
 refine sC (cs:=[(2,CallSpec.eq (c84 r l) [true,false])]) (kt:=[4]) (kh:=[8]) (q:=True/\True/\((zE (aWays l)/\True/\True)/\Triple Try.prog 81 (c84 r l)/\(0 < l.length/\l.length<=65536)/\True /\ ∀ (i0:Env) (i1:List Value),Env.le E0 i0->i1.length=List.length [aWays l,AV.fn 0]->(∀ (k:Nat),Rel i0 true (List.getD [aWays l,AV.clo 117 [AV.rp (cRun r)]] k AV.any) (i1.getD k undef))->fnokOf Try.prog 0 (fun (w:{ w:WayS // w ∈ l })=>[AV.agg (cWay (Subtype.val w))]) (fun (w:{ w:WayS // w ∈ l })=>vSpan (mixF r (Subtype.val w))) (Env.mk i0.1 i0.2 i0.3 fun (k:Nat) (u:Value) => ∃ (i:Nat),[aWays l,AV.fn 0][i]? = some (AV.fn k)/\i1[i]? = some u))/\True/\True) (st':=ASt.mk [(4,.ptr 8 [])] [(8,.cells 37 (cSpan (hullOf l (mixF r))))] 48) ⟨tv,tv,⟨⟨rfl,tv,tv⟩,(t81 _ _),⟨(o0 hp),(o1 hp)⟩,tv,(fun i0=>(fun i1=>(fun h2=>(fun h3=>(fun h4=>(o2 E0 hp i0 i1 h2 h3 h4))))))⟩,tv,tv⟩ ?_
 refine swp_ret ?_
 exact rQ [] ((True/\True)/\((zM (iv (hullOf l (mixF r)).lo))/\(zM (iv (hullOf l (mixF r)).hi))/\True)/\T3) ⟨⟨tv,tv⟩,⟨⟨rfl,rfl⟩,⟨rfl,rfl⟩,tv⟩,rfl,rfl,rfl⟩
theorem t84 (r:Run) (l:List WayS):Triple Try.prog 84 (s84 r l):=by
 apply w84
 case o2 =>
  intro E0 hp E us le hlen hr
  refine fnok_arg (vals:=[aWays l,.clo 117 [.rp (cRun r)]]) 1 (fun j' h => ?_) (fun E u hu w=>fnok_clo (caps:=[.rp (cRun r)]) (s117 w.1 r) (t117 w.1 _) rfl ⟨hp.2.1,hp.2.2.1 _ w.2,hp.2.2.2.1,hp.2.2.2.2.1⟩ (fun _=>trivial) rfl rfl rfl rfl rfl hu) E us le hlen hr
  match j',h with
  | 0,h=>cases h
  | 1,_=>rfl
  | n + 2,h=>simp at h
 all_goals ((repeat intro _) <;> (try simp only [v0,v1,v2,v3,v4,v5,v6,v7,v8,v9,inI,fits,Go.Sh.small] at *) <;> first | (exact rfl) | omega | exact vz | (simp_all; done) | (simp_all; omega))
abbrev q27_1 (r:Run) (C:Prop):Prop:=fits r->(!decide (openE r true=0))=false->C
theorem w27 (r:Run)
 (o0:fits r->(!decide (openE r true=0))->0=(mixesS r).lo)
 (o1:fits r->(!decide (openE r true=0))->0=(mixesS r).hi)
 (o2:q27_1 r (rb r))
 (o3:q27_1 r (∀ (i2:WayS),i2 ∈ openL r true->wb i2))
 (o4:q27_1 r (1<=r.plates))
 (o5:q27_1 r (r.plates<=3))
 (o6:q27_1 r (0 < (openL r true).length))
 (o7:q27_1 r ((openL r true).length<=65536))
 (o8:q27_1 r ((hullOf (openL r true) (mixF r)).lo=(mixesS r).lo))
 (o9:q27_1 r ((hullOf (openL r true) (mixF r)).hi=(mixesS r).hi))
 (o10:q27_1 r (0=openE r true)) :
  Triple Try.prog 27 (s27 r):=by
 refine triple_of Try.func27 rfl Try.call27 T0_ok _ rfl rfl rfl rfl (Nat.le_of_ble_eq_true (by kernel_rfl)) (fun _ _ _ _ h=>h) ?_
 intro hp C hC _ hE
 obtain ⟨P,w0,E0,av,hA⟩:=C
 subst hC
 refine swp_seq ?_
 refine sQ (kt:=[1,2]) (kh:=[0,8]) (q:=tn 3) (st':=ASt.mk [(1,.ptr 0 []),(2,.ptr 8 [])] [(0,.cells 25 (cRun r)),(8,.cells 37 [iv 0,iv 0])] 24) (tp 3) ?_
 refine swp_seq ?_
 refine sC (cs:=[(1,CallSpec.eq (s78 r true) [true,true])]) (kt:=[1,2,4,5]) (kh:=[0,8]) (q:=True/\((zE (AV.agg (cRun r))/\zE (bv true)/\True)/\Triple Try.prog 78 (s78 r true)/\fits r/\True /\ ∀ (i0:Env),True)/\tn 5) (st':=ASt.mk [(1,.ptr 0 []),(2,.ptr 8 []),(4,aWays (openL r true)),(5,iv (openE r true))] [(0,.cells 25 (cRun r)),(8,.cells 37 [iv 0,iv 0])] 80) ⟨tv,⟨⟨rfl,rfl,tv⟩,(t78 (r) (true)),hp,tv,(fun i0=>tv)⟩,tp 5⟩ ?_
 refine swp_seq (swp_seq ?_)
 refine sQ (kt:=[1,2,4,5,12]) (kh:=[0,8]) (q:=tn 2) (st':=ASt.mk [(1,.ptr 0 []),(2,.ptr 8 []),(4,aWays (openL r true)),(5,iv (openE r true)),(12,bv !decide (openE r true=0))] [(0,.cells 25 (cRun r)),(8,.cells 37 [iv 0,iv 0])] 96) (tp 2) ?_
 refine swp_cond (!decide (openE r true=0)) (by kernel_rfl) (fun h1 => ?_) (fun h1 => ?_)
 ·refine swp_seq ?_
  refine sQ (kt:=[2,3]) (kh:=[8]) (q:=tn 4) (st':=ASt.mk [(2,.ptr 8 []),(3,iv (openE r true))] [(8,.cells 37 [iv 0,iv 0])] 128) (tp 4) ?_
  refine swp_ret ?_
  exact rQ [] ((True/\True/\True)/\(((zN (iv 0) (iv (mixesS r).lo))/\(zN (iv 0) (iv (mixesS r).hi))/\True)/\(zM (iv (openE r true)))/\True)/\T3) ⟨⟨tv,tv,tv⟩,⟨⟨⟨(congrArg iv (o0 hp h1)),rfl⟩,⟨(congrArg iv (o1 hp h1)),rfl⟩,tv⟩,⟨rfl,rfl⟩,tv⟩,rfl,rfl,rfl⟩
 ·refine swp_skip (swp_seq ?_)
  refine sC (cs:=[(2,CallSpec.eq (c27 r) [true,true])]) (kt:=[2,3]) (kh:=[8]) (q:=True/\True/\((zE (AV.agg (cRun r))/\zE (aWays (openL r true))/\True)/\Triple Try.prog 84 (c27 r)/\(fits r/\rb r/\(∀ (i2:WayS),i2 ∈ openL r true->wb i2)/\1<=r.plates/\r.plates<=3/\0 < (openL r true).length/\(openL r true).length<=65536)/\True /\ ∀ (i4:Env),True)/\tn 2) (st':=ASt.mk [(2,.ptr 8 []),(3,iv 0)] [(8,.cells 37 (cSpan (hullOf (openL r true) (mixF r))))] 136) ⟨tv,tv,⟨⟨rfl,rfl,tv⟩,(t84 _ _),⟨hp,(o2 hp h1),(fun i2=>(fun h3=>(o3 hp h1 i2 h3))),(o4 hp h1),(o5 hp h1),(o6 hp h1),(o7 hp h1)⟩,tv,(fun i4=>tv)⟩,tp 2⟩ ?_
  refine swp_ret ?_
  exact rQ [] ((True/\True/\True)/\(((zN (iv (hullOf (openL r true) (mixF r)).lo) (iv (mixesS r).lo))/\(zN (iv (hullOf (openL r true) (mixF r)).hi) (iv (mixesS r).hi))/\True)/\(zN (iv 0) (iv (openE r true)))/\True)/\T3) ⟨⟨tv,tv,tv⟩,⟨⟨⟨(congrArg iv (o8 hp h1)),rfl⟩,⟨(congrArg iv (o9 hp h1)),rfl⟩,tv⟩,⟨(congrArg iv (o10 hp h1)),rfl⟩,tv⟩,rfl,rfl,rfl⟩
theorem t27 (r:Run):Triple Try.prog 27 (s27 r):=by
 apply w27
 case o0 | o1=>intro _ h; rw [mixesS,if_neg (openBad h)]
 case o8 | o9=>intro _ h; rw [mixesS,if_pos (openF h).zero,(openF h).eq]
 all_goals (intro _ h; have F:=openF h; have h1:=F.ok.plates; have h2:=F.pos; have h3:=F.len; first | omega | exact rb_of F.ok | exact F.wb | exact F.zero.symm)
abbrev z65_1 (r:Run) (m:Int):LoopAnn:=Hint.ann (h65 r m) [(1,iv m),(2,AV.ptr 0 []),(6,aWays (openL r (isMachine r m))),(24,aWays (openL r (isMachine r m))),(25,iv (↑((openL r (isMachine r m)).length):Int))] [(0,OB.cells 25 (cRun r))] 10160
abbrev q65_1 (r:Run) (m:Int) (C:Prop):Prop:=fits r->(!decide (openE r (isMachine r m)=0))=false->C
abbrev q65_2 (r:Run) (m:Int) (C:Nat->Prop):Prop:=q65_1 r m (∀ (x3:Nat),x3<=(openL r (isMachine r m)).length->decide ((x3:Int) < (↑((openL r (isMachine r m)).length):Int))=true->C x3)
abbrev q65_3 (r:Run) (m:Int) (C:Nat->Prop):Prop:=q65_2 r m fun x3=>decide (0 < (spread (((openL r (isMachine r m)).getD x3 default).whn m.toNat) r.plates.toNat).lo)=true->C x3
abbrev q65_4 (r:Run) (m:Int) (C:Nat->Prop):Prop:=q65_2 r m fun x3=>decide (0 < (spread (((openL r (isMachine r m)).getD x3 default).whn m.toNat) r.plates.toNat).lo)=false->decide ((spread (((openL r (isMachine r m)).getD x3 default).whn m.toNat) r.plates.toNat).hi=0)=true->C x3
abbrev q65_5 (r:Run) (m:Int) (C:Nat->Prop):Prop:=q65_2 r m fun x3=>decide (0 < (spread (((openL r (isMachine r m)).getD x3 default).whn m.toNat) r.plates.toNat).lo)=false->decide ((spread (((openL r (isMachine r m)).getD x3 default).whn m.toNat) r.plates.toNat).hi=0)=false->C x3
abbrev q65_6 (r:Run) (m:Int) (C:Nat->Prop):Prop:=q65_1 r m (∀ (x3:Nat),x3<=(openL r (isMachine r m)).length->decide ((x3:Int) < (↑((openL r (isMachine r m)).length):Int))=false->C x3)
theorem w65 (r:Run) (m:Int)
 (o0:fits r->(!decide (openE r (isMachine r m)=0))->0=mixedS r m)
 (o1:q65_1 r m (0=(↑(cnt (openL r (isMachine r m)) (mxSo r m.toNat) 0):Int)))
 (o2:q65_1 r m (0=(↑(cnt (openL r (isMachine r m)) (mxNot r m.toNat) 0):Int)))
 (o3:q65_1 r m (0=(↑0:Int)))
 (o4:q65_1 r m (0<=(openL r (isMachine r m)).length))
 (o5:q65_2 r m fun x3=>0<=(x3:Int))
 (o6:q65_2 r m fun x3=>(x3:Int) < (↑((openL r (isMachine r m)).length):Int))
 (o7:q65_2 r m fun x3=>m=(↑(m.toNat):Int))
 (o8:q65_2 r m fun x3=>r.plates=(↑(r.plates.toNat):Int))
 (o9:q65_2 r m fun x3=>wb ((openL r (isMachine r m)).getD x3 default))
 (o10:q65_2 r m fun x3=>m.toNat < 3)
 (o11:q65_2 r m fun x3=>1<=r.plates.toNat)
 (o12:q65_2 r m fun x3=>r.plates.toNat<=3)
 (o13:q65_3 r m fun x3=>inI ((↑(cnt (openL r (isMachine r m)) (mxSo r m.toNat) x3):Int) + 1))
 (o14:q65_3 r m fun x3=>inI ((x3:Int) + 1))
 (o15:q65_3 r m fun x3=>(↑(cnt (openL r (isMachine r m)) (mxSo r m.toNat) x3):Int) + 1=(↑(cnt (openL r (isMachine r m)) (mxSo r m.toNat) (x3 + 1)):Int))
 (o16:q65_3 r m fun x3=>(↑(cnt (openL r (isMachine r m)) (mxNot r m.toNat) x3):Int)=(↑(cnt (openL r (isMachine r m)) (mxNot r m.toNat) (x3 + 1)):Int))
 (o17:q65_3 r m fun x3=>(x3:Int) + 1=(↑(x3 + 1):Int))
 (o18:q65_3 r m fun x3=>x3 + 1<=(openL r (isMachine r m)).length)
 (o19:q65_3 r m fun x3=>(openL r (isMachine r m)).length - (x3 + 1) < (openL r (isMachine r m)).length - x3)
 (o20:q65_4 r m fun x3=>inI ((↑(cnt (openL r (isMachine r m)) (mxNot r m.toNat) x3):Int) + 1))
 (o21:q65_4 r m fun x3=>inI ((x3:Int) + 1))
 (o22:q65_4 r m fun x3=>(↑(cnt (openL r (isMachine r m)) (mxSo r m.toNat) x3):Int)=(↑(cnt (openL r (isMachine r m)) (mxSo r m.toNat) (x3 + 1)):Int))
 (o23:q65_4 r m fun x3=>(↑(cnt (openL r (isMachine r m)) (mxNot r m.toNat) x3):Int) + 1=(↑(cnt (openL r (isMachine r m)) (mxNot r m.toNat) (x3 + 1)):Int))
 (o24:q65_4 r m fun x3=>(x3:Int) + 1=(↑(x3 + 1):Int))
 (o25:q65_4 r m fun x3=>x3 + 1<=(openL r (isMachine r m)).length)
 (o26:q65_4 r m fun x3=>(openL r (isMachine r m)).length - (x3 + 1) < (openL r (isMachine r m)).length - x3)
 (o27:q65_5 r m fun x3=>inI ((x3:Int) + 1))
 (o28:q65_5 r m fun x3=>(↑(cnt (openL r (isMachine r m)) (mxSo r m.toNat) x3):Int)=(↑(cnt (openL r (isMachine r m)) (mxSo r m.toNat) (x3 + 1)):Int))
 (o29:q65_5 r m fun x3=>(↑(cnt (openL r (isMachine r m)) (mxNot r m.toNat) x3):Int)=(↑(cnt (openL r (isMachine r m)) (mxNot r m.toNat) (x3 + 1)):Int))
 (o30:q65_5 r m fun x3=>(x3:Int) + 1=(↑(x3 + 1):Int))
 (o31:q65_5 r m fun x3=>x3 + 1<=(openL r (isMachine r m)).length)
 (o32:q65_5 r m fun x3=>(openL r (isMachine r m)).length - (x3 + 1) < (openL r (isMachine r m)).length - x3)
 (o33:q65_6 r m fun x3=>known3 (↑(cnt (openL r (isMachine r m)) (mxSo r m.toNat) x3):Int) (↑(cnt (openL r (isMachine r m)) (mxNot r m.toNat) x3):Int) (↑((openL r (isMachine r m)).length):Int)=mixedS r m)
 (o34:q65_6 r m fun x3=>0=openE r (isMachine r m)) :
  Triple Try.prog 65 (s65 r m):=by
 refine triple_of Try.func65 rfl Try.call65 T0_ok _ rfl rfl rfl rfl (Nat.le_of_ble_eq_true (by kernel_rfl)) (fun _ _ _ _ h=>h) ?_
 intro hp C hC _ hE
 obtain ⟨P,w0,E0,av,hA⟩:=C
 subst hC
 refine swp_seq ?_
 refine sQ (kt:=[1,2]) (kh:=[0]) (q:=tn 3) (st':=ASt.mk [(1,iv m),(2,.ptr 0 [])] [(0,.cells 25 (cRun r))] 24) (tp 3) ?_
 refine swp_seq ?_
 refine sC (cs:=[(3,CallSpec.eq (s79 r m) [true,true]),(4,CallSpec.eq (c65o r m) [true,true])]) (kt:=[1,2,6,7]) (kh:=[0]) (q:=True/\True/\True/\((zE (AV.agg (cRun r))/\iv m=iv m/\True)/\Triple Try.prog 79 (s79 r m)/\fits r/\True /\ ∀ (i0:Env),True)/\((zE (AV.agg (cRun r))/\zE (bv (isMachine r m))/\True)/\Triple Try.prog 78 (c65o r m)/\fits r/\True /\ ∀ (i1:Env),True)/\tn 5) (st':=ASt.mk [(1,iv m),(2,.ptr 0 []),(6,aWays (openL r (isMachine r m))),(7,iv (openE r (isMachine r m)))] [(0,.cells 25 (cRun r))] 104) ⟨tv,tv,tv,⟨⟨rfl,rfl,tv⟩,(t79 (r) (m)),hp,tv,(fun i0=>tv)⟩,⟨⟨rfl,rfl,tv⟩,(t78 _ _),hp,tv,(fun i1=>tv)⟩,tp 5⟩ ?_
 refine swp_seq (swp_seq ?_)
 refine sQ (kt:=[1,2,6,7,22]) (kh:=[0]) (q:=tn 2) (st':=ASt.mk [(1,iv m),(2,.ptr 0 []),(6,aWays (openL r (isMachine r m))),(7,iv (openE r (isMachine r m))),(22,bv !decide (openE r (isMachine r m)=0))] [(0,.cells 25 (cRun r))] 120) (tp 2) ?_
 refine swp_cond (!decide (openE r (isMachine r m)=0)) (by kernel_rfl) (fun h2 => ?_) (fun h2 => ?_)
 ·refine swp_seq ?_
  refine sQ (kt:=[4,5]) (kh:=[]) (q:=tn 3) (st':=ASt.mk [(4,iv 0),(5,iv (openE r (isMachine r m)))] [] 144) (tp 3) ?_
  refine swp_ret ?_
  exact rQ [] ((True/\True/\True)/\((zN (iv 0) (iv (mixedS r m)))/\(zM (iv (openE r (isMachine r m))))/\True)/\T3) ⟨⟨tv,tv,tv⟩,⟨⟨(congrArg iv (o0 hp h2)),rfl⟩,⟨rfl,rfl⟩,tv⟩,rfl,rfl,rfl⟩
 ·refine swp_skip (swp_seq ?_)
  refine sQ (kt:=[1,2,6,8,9]) (kh:=[0]) (q:=tn 2) (st':=ASt.mk [(1,iv m),(2,.ptr 0 []),(6,aWays (openL r (isMachine r m))),(8,iv 0),(9,iv 0)] [(0,.cells 25 (cRun r))] 136) (tp 2) ?_
  refine swp_seq (swp_seq ?_)
  refine sQ (kt:=[1,2,6,8,9,24,25,26]) (kh:=[0]) (q:=tn 3) (st':=ASt.mk [(1,iv m),(2,.ptr 0 []),(6,aWays (openL r (isMachine r m))),(8,iv 0),(9,iv 0),(24,aWays (openL r (isMachine r m))),(25,iv (↑((openL r (isMachine r m)).length):Int)),(26,iv 0)] [(0,.cells 25 (cRun r))] 160) (tp 3) ?_
  refine swp_block ?_
  refine swp_loopA (z65_1 r m) (eQ hE [] [(0,.same 0)] [1,6,24,25] [0] (((zT (iv m))/\(zP 0)/\(zT (aWays (openL r (isMachine r m))))/\(zT (aWays (openL r (isMachine r m))))/\(zT (iv (↑((openL r (isMachine r m)).length):Int)))/\(zN (iv 0) (iv (↑(cnt (openL r (isMachine r m)) (mxSo r m.toNat) 0):Int)))/\(zN (iv 0) (iv (↑(cnt (openL r (isMachine r m)) (mxNot r m.toNat) 0):Int)))/\(zN (iv 0) (iv (↑0:Int)))/\True)/\((zT (OB.cells 25 (cRun r)))/\True)/\T2) ⟨⟨⟨rfl,rfl⟩,⟨rfl,rfl⟩,⟨rfl,rfl⟩,⟨rfl,rfl⟩,⟨rfl,rfl⟩,⟨(congrArg iv (o1 hp h2)),rfl⟩,⟨(congrArg iv (o2 hp h2)),rfl⟩,⟨(congrArg iv (o3 hp h2)),rfl⟩,tv⟩,⟨⟨rfl,rfl⟩,tv⟩,rfl,rfl⟩) (o4 hp h2) (fun (x3:Nat) hx3 => ?_)
  refine swp_seq ?_
  refine sQ (kt:=[1,2,6,24,25,8,9,26,27]) (kh:=[0]) (q:=True/\True) (st':=ASt.mk [(1,iv m),(2,.ptr 0 []),(6,aWays (openL r (isMachine r m))),(24,aWays (openL r (isMachine r m))),(25,iv (↑((openL r (isMachine r m)).length):Int)),(8,iv (↑(cnt (openL r (isMachine r m)) (mxSo r m.toNat) x3):Int)),(9,iv (↑(cnt (openL r (isMachine r m)) (mxNot r m.toNat) x3):Int)),(26,iv (x3:Int)),(27,bv (decide ((x3:Int) < (↑((openL r (isMachine r m)).length):Int))))] [(0,.cells 25 (cRun r))] 10168) ⟨tv,tv⟩ ?_
  refine swp_seq ?_
  refine swp_cond (decide ((x3:Int) < (↑((openL r (isMachine r m)).length):Int))) (by kernel_rfl) (fun h4 => ?_) (fun h4 => ?_)
  ·refine swp_skip (swp_seq (swp_block (swp_seq ?_)))
   refine sQ (kt:=[1,2,6,24,25,8,9,26,11]) (kh:=[0,10184]) (q:=(0<=(x3:Int)/\(x3:Int) < (↑((openL r (isMachine r m)).length):Int))/\tn 3) (st':=ASt.mk [(1,iv m),(2,.ptr 0 []),(6,aWays (openL r (isMachine r m))),(24,aWays (openL r (isMachine r m))),(25,iv (↑((openL r (isMachine r m)).length):Int)),(8,iv (↑(cnt (openL r (isMachine r m)) (mxSo r m.toNat) x3):Int)),(9,iv (↑(cnt (openL r (isMachine r m)) (mxNot r m.toNat) x3):Int)),(26,iv (x3:Int)),(11,.ptr 10184 [])] [(0,.cells 25 (cRun r)),(10184,.cells 107 (cWay ((openL r (isMachine r m)).getD x3 default)))] 10200) ⟨⟨(o5 hp h2 x3 hx3 h4),(o6 hp h2 x3 hx3 h4)⟩,tp 3⟩ ?_
   refine swp_seq ?_
   refine sC (cs:=[(4,CallSpec.eq (c65 r m x3) [true,false,false])]) (kt:=[1,2,6,24,25,8,9,26,12]) (kh:=[0,10240]) (q:=True/\True/\True/\True/\((zE (AV.agg (cWay ((openL r (isMachine r m)).getD x3 default)))/\iv m=iv (↑(m.toNat):Int)/\iv r.plates=iv (↑(r.plates.toNat):Int)/\True)/\Triple Try.prog 108 (c65 r m x3)/\(wb ((openL r (isMachine r m)).getD x3 default)/\m.toNat < 3/\1<=r.plates.toNat/\r.plates.toNat<=3)/\True /\ ∀ (i5:Env),True)/\tn 2) (st':=ASt.mk [(1,iv m),(2,.ptr 0 []),(6,aWays (openL r (isMachine r m))),(24,aWays (openL r (isMachine r m))),(25,iv (↑((openL r (isMachine r m)).length):Int)),(8,iv (↑(cnt (openL r (isMachine r m)) (mxSo r m.toNat) x3):Int)),(9,iv (↑(cnt (openL r (isMachine r m)) (mxNot r m.toNat) x3):Int)),(26,iv (x3:Int)),(12,.ptr 10240 [])] [(0,.cells 25 (cRun r)),(10240,.cells 37 (cSpan (spread (((openL r (isMachine r m)).getD x3 default).whn m.toNat) r.plates.toNat)))] 10256) ⟨tv,tv,tv,tv,⟨⟨rfl,(congrArg iv (o7 hp h2 x3 hx3 h4)),(congrArg iv (o8 hp h2 x3 hx3 h4)),tv⟩,(t108 _ _ _),⟨(o9 hp h2 x3 hx3 h4),(o10 hp h2 x3 hx3 h4),(o11 hp h2 x3 hx3 h4),(o12 hp h2 x3 hx3 h4)⟩,tv,(fun i5=>tv)⟩,tp 2⟩ ?_
   refine swp_block (swp_seq ?_)
   refine sQ (kt:=[1,2,6,24,25,8,9,26,12,35]) (kh:=[0,10240]) (q:=tn 4) (st':=ASt.mk [(1,iv m),(2,.ptr 0 []),(6,aWays (openL r (isMachine r m))),(24,aWays (openL r (isMachine r m))),(25,iv (↑((openL r (isMachine r m)).length):Int)),(8,iv (↑(cnt (openL r (isMachine r m)) (mxSo r m.toNat) x3):Int)),(9,iv (↑(cnt (openL r (isMachine r m)) (mxNot r m.toNat) x3):Int)),(26,iv (x3:Int)),(12,.ptr 10240 []),(35,bv (decide (0 < (spread (((openL r (isMachine r m)).getD x3 default).whn m.toNat) r.plates.toNat).lo)))] [(0,.cells 25 (cRun r)),(10240,.cells 37 (cSpan (spread (((openL r (isMachine r m)).getD x3 default).whn m.toNat) r.plates.toNat)))] 10288) (tp 4) ?_
   refine swp_cond (decide (0 < (spread (((openL r (isMachine r m)).getD x3 default).whn m.toNat) r.plates.toNat).lo)) (by kernel_rfl) (fun h6 => ?_) (fun h6 => ?_)
   ·refine sQ (kt:=[1,2,6,24,25,8,9,26]) (kh:=[0]) (q:=True/\inI ((↑(cnt (openL r (isMachine r m)) (mxSo r m.toNat) x3):Int) + 1)/\True/\True) (st':=ASt.mk [(1,iv m),(2,.ptr 0 []),(6,aWays (openL r (isMachine r m))),(24,aWays (openL r (isMachine r m))),(25,iv (↑((openL r (isMachine r m)).length):Int)),(8,iv ((↑(cnt (openL r (isMachine r m)) (mxSo r m.toNat) x3):Int) + 1)),(9,iv (↑(cnt (openL r (isMachine r m)) (mxNot r m.toNat) x3):Int)),(26,iv (x3:Int))] [(0,.cells 25 (cRun r))] 10312) ⟨tv,(o13 hp h2 x3 hx3 h4 h6),tv,tv⟩ ?_
    refine sQ (kt:=[1,2,6,24,25,8,9,26]) (kh:=[0]) (q:=inI ((x3:Int) + 1)/\True/\True) (st':=ASt.mk [(1,iv m),(2,.ptr 0 []),(6,aWays (openL r (isMachine r m))),(24,aWays (openL r (isMachine r m))),(25,iv (↑((openL r (isMachine r m)).length):Int)),(8,iv ((↑(cnt (openL r (isMachine r m)) (mxSo r m.toNat) x3):Int) + 1)),(9,iv (↑(cnt (openL r (isMachine r m)) (mxNot r m.toNat) x3):Int)),(26,iv ((x3:Int) + 1))] [(0,.cells 25 (cRun r))] 10328) ⟨(o14 hp h2 x3 hx3 h4 h6),tv,tv⟩ ?_
    exact loop_next (z65_1 r m) x3 (eQ hE [] [(0,.same 0)] [1,6,24,25] [0] (((zT (iv m))/\(zP 0)/\(zT (aWays (openL r (isMachine r m))))/\(zT (aWays (openL r (isMachine r m))))/\(zT (iv (↑((openL r (isMachine r m)).length):Int)))/\(zN (iv ((↑(cnt (openL r (isMachine r m)) (mxSo r m.toNat) x3):Int) + 1)) (iv (↑(cnt (openL r (isMachine r m)) (mxSo r m.toNat) (x3 + 1)):Int)))/\(zN (iv (↑(cnt (openL r (isMachine r m)) (mxNot r m.toNat) x3):Int)) (iv (↑(cnt (openL r (isMachine r m)) (mxNot r m.toNat) (x3 + 1)):Int)))/\(zN (iv ((x3:Int) + 1)) (iv (↑(x3 + 1):Int)))/\True)/\((zT (OB.cells 25 (cRun r)))/\True)/\T2) ⟨⟨⟨rfl,rfl⟩,⟨rfl,rfl⟩,⟨rfl,rfl⟩,⟨rfl,rfl⟩,⟨rfl,rfl⟩,⟨(congrArg iv (o15 hp h2 x3 hx3 h4 h6)),rfl⟩,⟨(congrArg iv (o16 hp h2 x3 hx3 h4 h6)),rfl⟩,⟨(congrArg iv (o17 hp h2 x3 hx3 h4 h6)),rfl⟩,tv⟩,⟨⟨rfl,rfl⟩,tv⟩,rfl,rfl⟩) (o18 hp h2 x3 hx3 h4 h6) (o19 hp h2 x3 hx3 h4 h6)
   ·refine swp_seq ?_
    refine sQ (kt:=[1,2,6,24,25,8,9,26,41]) (kh:=[0]) (q:=tn 4) (st':=ASt.mk [(1,iv m),(2,.ptr 0 []),(6,aWays (openL r (isMachine r m))),(24,aWays (openL r (isMachine r m))),(25,iv (↑((openL r (isMachine r m)).length):Int)),(8,iv (↑(cnt (openL r (isMachine r m)) (mxSo r m.toNat) x3):Int)),(9,iv (↑(cnt (openL r (isMachine r m)) (mxNot r m.toNat) x3):Int)),(26,iv (x3:Int)),(41,bv (decide ((spread (((openL r (isMachine r m)).getD x3 default).whn m.toNat) r.plates.toNat).hi=0)))] [(0,.cells 25 (cRun r))] 10320) (tp 4) ?_
    refine swp_cond (decide ((spread (((openL r (isMachine r m)).getD x3 default).whn m.toNat) r.plates.toNat).hi=0)) (by kernel_rfl) (fun h7 => ?_) (fun h7 => ?_)
    ·refine sQ (kt:=[1,2,6,24,25,8,9,26]) (kh:=[0]) (q:=True/\inI ((↑(cnt (openL r (isMachine r m)) (mxNot r m.toNat) x3):Int) + 1)/\True/\True) (st':=ASt.mk [(1,iv m),(2,.ptr 0 []),(6,aWays (openL r (isMachine r m))),(24,aWays (openL r (isMachine r m))),(25,iv (↑((openL r (isMachine r m)).length):Int)),(8,iv (↑(cnt (openL r (isMachine r m)) (mxSo r m.toNat) x3):Int)),(9,iv ((↑(cnt (openL r (isMachine r m)) (mxNot r m.toNat) x3):Int) + 1)),(26,iv (x3:Int))] [(0,.cells 25 (cRun r))] 10344) ⟨tv,(o20 hp h2 x3 hx3 h4 h6 h7),tv,tv⟩ ?_
     refine sQ (kt:=[1,2,6,24,25,8,9,26]) (kh:=[0]) (q:=inI ((x3:Int) + 1)/\True/\True) (st':=ASt.mk [(1,iv m),(2,.ptr 0 []),(6,aWays (openL r (isMachine r m))),(24,aWays (openL r (isMachine r m))),(25,iv (↑((openL r (isMachine r m)).length):Int)),(8,iv (↑(cnt (openL r (isMachine r m)) (mxSo r m.toNat) x3):Int)),(9,iv ((↑(cnt (openL r (isMachine r m)) (mxNot r m.toNat) x3):Int) + 1)),(26,iv ((x3:Int) + 1))] [(0,.cells 25 (cRun r))] 10360) ⟨(o21 hp h2 x3 hx3 h4 h6 h7),tv,tv⟩ ?_
     exact loop_next (z65_1 r m) x3 (eQ hE [] [(0,.same 0)] [1,6,24,25] [0] (((zT (iv m))/\(zP 0)/\(zT (aWays (openL r (isMachine r m))))/\(zT (aWays (openL r (isMachine r m))))/\(zT (iv (↑((openL r (isMachine r m)).length):Int)))/\(zN (iv (↑(cnt (openL r (isMachine r m)) (mxSo r m.toNat) x3):Int)) (iv (↑(cnt (openL r (isMachine r m)) (mxSo r m.toNat) (x3 + 1)):Int)))/\(zN (iv ((↑(cnt (openL r (isMachine r m)) (mxNot r m.toNat) x3):Int) + 1)) (iv (↑(cnt (openL r (isMachine r m)) (mxNot r m.toNat) (x3 + 1)):Int)))/\(zN (iv ((x3:Int) + 1)) (iv (↑(x3 + 1):Int)))/\True)/\((zT (OB.cells 25 (cRun r)))/\True)/\T2) ⟨⟨⟨rfl,rfl⟩,⟨rfl,rfl⟩,⟨rfl,rfl⟩,⟨rfl,rfl⟩,⟨rfl,rfl⟩,⟨(congrArg iv (o22 hp h2 x3 hx3 h4 h6 h7)),rfl⟩,⟨(congrArg iv (o23 hp h2 x3 hx3 h4 h6 h7)),rfl⟩,⟨(congrArg iv (o24 hp h2 x3 hx3 h4 h6 h7)),rfl⟩,tv⟩,⟨⟨rfl,rfl⟩,tv⟩,rfl,rfl⟩) (o25 hp h2 x3 hx3 h4 h6 h7) (o26 hp h2 x3 hx3 h4 h6 h7)
    ·refine swp_skip ?_
     refine sQ (kt:=[1,2,6,24,25,8,9,26]) (kh:=[0]) (q:=inI ((x3:Int) + 1)/\True/\True) (st':=ASt.mk [(1,iv m),(2,.ptr 0 []),(6,aWays (openL r (isMachine r m))),(24,aWays (openL r (isMachine r m))),(25,iv (↑((openL r (isMachine r m)).length):Int)),(8,iv (↑(cnt (openL r (isMachine r m)) (mxSo r m.toNat) x3):Int)),(9,iv (↑(cnt (openL r (isMachine r m)) (mxNot r m.toNat) x3):Int)),(26,iv ((x3:Int) + 1))] [(0,.cells 25 (cRun r))] 10336) ⟨(o27 hp h2 x3 hx3 h4 h6 h7),tv,tv⟩ ?_
     exact loop_next (z65_1 r m) x3 (eQ hE [] [(0,.same 0)] [1,6,24,25] [0] (((zT (iv m))/\(zP 0)/\(zT (aWays (openL r (isMachine r m))))/\(zT (aWays (openL r (isMachine r m))))/\(zT (iv (↑((openL r (isMachine r m)).length):Int)))/\(zN (iv (↑(cnt (openL r (isMachine r m)) (mxSo r m.toNat) x3):Int)) (iv (↑(cnt (openL r (isMachine r m)) (mxSo r m.toNat) (x3 + 1)):Int)))/\(zN (iv (↑(cnt (openL r (isMachine r m)) (mxNot r m.toNat) x3):Int)) (iv (↑(cnt (openL r (isMachine r m)) (mxNot r m.toNat) (x3 + 1)):Int)))/\(zN (iv ((x3:Int) + 1)) (iv (↑(x3 + 1):Int)))/\True)/\((zT (OB.cells 25 (cRun r)))/\True)/\T2) ⟨⟨⟨rfl,rfl⟩,⟨rfl,rfl⟩,⟨rfl,rfl⟩,⟨rfl,rfl⟩,⟨rfl,rfl⟩,⟨(congrArg iv (o28 hp h2 x3 hx3 h4 h6 h7)),rfl⟩,⟨(congrArg iv (o29 hp h2 x3 hx3 h4 h6 h7)),rfl⟩,⟨(congrArg iv (o30 hp h2 x3 hx3 h4 h6 h7)),rfl⟩,tv⟩,⟨⟨rfl,rfl⟩,tv⟩,rfl,rfl⟩) (o31 hp h2 x3 hx3 h4 h6 h7) (o32 hp h2 x3 hx3 h4 h6 h7)
  ·refine swp_exit (swp_seq ?_)
   refine sC (cs:=[(4,CallSpec.eq (s86 (↑(cnt (openL r (isMachine r m)) (mxSo r m.toNat) x3):Int) (↑(cnt (openL r (isMachine r m)) (mxNot r m.toNat) x3):Int) (↑((openL r (isMachine r m)).length):Int)) [true,true,true])]) (kt:=[4,5]) (kh:=[]) (q:=True/\True/\True/\True/\((zE (iv (↑(cnt (openL r (isMachine r m)) (mxSo r m.toNat) x3):Int))/\zE (iv (↑(cnt (openL r (isMachine r m)) (mxNot r m.toNat) x3):Int))/\zE (iv (↑((openL r (isMachine r m)).length):Int))/\True)/\Triple Try.prog 86 (s86 (↑(cnt (openL r (isMachine r m)) (mxSo r m.toNat) x3):Int) (↑(cnt (openL r (isMachine r m)) (mxNot r m.toNat) x3):Int) (↑((openL r (isMachine r m)).length):Int))/\True/\True /\ ∀ (i8:Env),True)/\tn 2) (st':=ASt.mk [(4,iv (known3 (↑(cnt (openL r (isMachine r m)) (mxSo r m.toNat) x3):Int) (↑(cnt (openL r (isMachine r m)) (mxNot r m.toNat) x3):Int) (↑((openL r (isMachine r m)).length):Int))),(5,iv 0)] [] 10224) ⟨tv,tv,tv,tv,⟨⟨rfl,rfl,rfl,tv⟩,(t86 ((↑(cnt (openL r (isMachine r m)) (mxSo r m.toNat) x3):Int)) ((↑(cnt (openL r (isMachine r m)) (mxNot r m.toNat) x3):Int)) ((↑((openL r (isMachine r m)).length):Int))),tv,tv,(fun i8=>tv)⟩,tp 2⟩ ?_
   refine swp_ret ?_
   exact rQ [] ((True/\True/\True)/\((zN (iv (known3 (↑(cnt (openL r (isMachine r m)) (mxSo r m.toNat) x3):Int) (↑(cnt (openL r (isMachine r m)) (mxNot r m.toNat) x3):Int) (↑((openL r (isMachine r m)).length):Int))) (iv (mixedS r m)))/\(zN (iv 0) (iv (openE r (isMachine r m))))/\True)/\T3) ⟨⟨tv,tv,tv⟩,⟨⟨(congrArg iv (o33 hp h2 x3 hx3 h4)),rfl⟩,⟨(congrArg iv (o34 hp h2 x3 hx3 h4)),rfl⟩,tv⟩,rfl,rfl,rfl⟩
theorem t65 (r:Run) (m:Int):Triple Try.prog 65 (s65 r m):=by
 apply w65
 case o0=>intro _ h; rw [mixedS,if_neg (openBad h)]
 all_goals (first | (((repeat intro _) <;> (try simp only [v0,v1,v2,v3,v4,v5,v6,v7,v8,v9,inI,fits,Go.Sh.small] at *) <;> first | (exact rfl) | omega | exact vz | (simp_all; done) | (simp_all; omega))) | (
  intro _ h
  have F:=openF h
  first | exact F.zero.symm | (intro _ _ _; exact F.zero.symm) | (
   intro x hx hl
   simp only [decide_eq_true_eq,decide_eq_false_iff_not] at hl
   have h1:=machIs_ok F.isT
   have h4:=F.len
   have h7:=F.ok.machines
   have h8:=F.ok.plates
   have h5:=cnt_le (openL r (isMachine r m)) (mxSo r m.toNat) x
   have h6:=cnt_le (openL r (isMachine r m)) (mxNot r m.toNat) x
   first
   | omega
   | exact F.wb _ (getD_mem _ default (by omega))
   | ((repeat intro _); simp only [inI]; omega)
   | (intro e; exact cnt_t (by omega) e)
   | (intro e; exact cnt_f (by omega) e)
   | (intro e; exact cnt_f (by omega) (mxNot_t e))
   | (intro e e2; exact cnt_f (by omega) e)
   | (intro e e2; exact cnt_t (by omega) (mxNot_f e e2))
   | (intro e e2; exact cnt_f (by omega) (mxNot_f e e2))
   | (show _=mixedS r m; rw [mixedS,if_pos F.zero,show x=(openL r (isMachine r m)).length by omega,F.eq]))))
end Go.Ab
namespace Go.Sh
def rfE (r:Run) (is:Bool):Int:=if check r=0 then (if is then (if (fromsOf r).length=0 then 3 else 0) else 1) else 60
def rfL (r:Run) (is:Bool):List (List Int):=if rfE r is=0 then fromsOf r else []
theorem frm_range {r:Run} (ok:Ok r) {i:Nat} (hi:i < r.found.length) {x:Int} (h:x ∈ (fnd r i).frm):0<=x/\x < r.machines.length:=by
 obtain ⟨k,hk,e⟩:=List.getElem_of_mem h
 have h2:=ok.frm i hi k hk
 rw [Go.Ab.getD_lt _ _ hk,e] at h2
 exact h2
structure KnowF (r:Run) (is:Bool):Prop where
 zero:rfE r is=0
 okb:okRun r=true
 ok:Ok r
 isT:is=true
 eq:rfL r is=fromsOf r
 pos:0 < (rfL r is).length
 len:(rfL r is).length<=729
 frm:∀ x,x < (rfL r is).length->((rfL r is).getD x []).length=r.found.length
 mach:∀ x,x < (rfL r is).length -> ∀ i,i < r.found.length->0<=((rfL r is).getD x []).getD i 0/\((rfL r is).getD x []).getD i 0 < r.machines.length/\r.machines.length<=3
theorem rfE_zero {r:Run} {is:Bool} (h:rfE r is=0):check r=0/\is=true/\0 < (fromsOf r).length:=by
 unfold rfE at h
 split at h
 ·split at h
  ·split at h
   ·cases h
   ·rename_i h1 h2 h3; exact ⟨h1,h2,by omega⟩
  ·cases h
 ·cases h
def rhullTo (l:List (List Int)) (F:List Int->Span) (n:Nat):Span:=(List.range n).foldl (fun o i=>hull2 o (F (l.getD i []))) (F (l.getD 0 []))
def rhull (l:List (List Int)) (F:List Int->Span):Span:=rhullTo l F l.length
theorem rhullTo_succ (l:List (List Int)) (F:List Int->Span) (n:Nat):rhullTo l F (n + 1)=hull2 (rhullTo l F n) (F (l.getD n [])):=Go.Ab.foldl_range_succ _ _ _
def cntL (l:List (List Int)) (P:List Int->Bool) (n:Nat):Nat:=(l.take n).countP P
def smL (a b:Nat) (x:List Int):Bool:=decide (x.getD a 0=x.getD b 0)
def oldL (r:Run) (p:Nat) (l:List Int):Span:=sumTo r (fun m=>spanOf r l m p) r.machines.length
def minIn (g:Nat->Span) (i:Nat) (o:Span) (k:Nat):Span:=(List.range k).foldl (fun o q=>if i=q then o else ⟨max o.lo ((g i).lo - (g q).hi),max o.hi ((g i).hi - (g q).lo)⟩) o
def minTo (g:Nat->Span) (n i:Nat):Span:=(List.range i).foldl (fun o p=>minIn g p o n) ⟨0,0⟩
def minutes (g:Nat->Span) (n:Nat):Span:=minTo g n n
def mixL (r:Run) (l:List Int):Span:=sumTo r (fun m=>minutes (spanOf r l m) r.plates.toNat) r.machines.length
def nvTo (r:Run) (l:List (List Int)) (m n:Nat):Bool:=(l.take n).all (fun x=>decide ((minutes (spanOf r x m) r.plates.toNat).hi=0))
def suTo (r:Run) (l:List (List Int)) (m n:Nat):Bool:=(l.take n).all (fun x=>decide ((minutes (spanOf r x m) r.plates.toNat).lo > 0))
def mixedR (r:Run) (m:Int):Int:=if rfE r (isMachine r m)=0 then (if suTo r (fromsOf r) m.toNat (fromsOf r).length then 1 else if nvTo r (fromsOf r) m.toNat (fromsOf r).length then 2 else 3) else 0
def skipL (f:Nat) (m:Int) (x:List Int):Bool:=decide (0<=m) && !decide (x.getD f 0=m)
def allStep (r:Run) (l:List (List Int)) (f:Nat) (m:Int) (s:Bool × Span) (i:Nat):Bool × Span:=if skipL f m (l.getD i []) then s else (true,if s.1 then hull2 s.2 (mixL r (l.getD i [])) else mixL r (l.getD i []))
def allTo (r:Run) (l:List (List Int)) (f:Nat) (m:Int) (n:Nat):Bool × Span:=(List.range n).foldl (allStep r l f m) (false,⟨0,0⟩)
@[reducible] def bb (s:Span):Prop:=0<=s.lo/\s.lo<=27000/\0<=s.hi/\s.hi<=27000
def rdL (r:Run) (f p:Nat) (x:List Int):Span:=spanOf r x (x.getD f 0).toNat p
def oldTo (r:Run) (l:List (List Int)) (f p n:Nat):Bool:=(l.take n).any (fun x=>decide ((rdL r f p x).hi > (fnd r f).minute))
def newTo (r:Run) (l:List (List Int)) (f p n:Nat):Bool:=(l.take n).any (fun x=>decide ((rdL r f p x).lo<=(fnd r f).minute))
structure Trth where
 minutes:List (List Int)
 frm:List Int
 deriving DecidableEq,Inhabited
def tmin (t:Trth) (m:Nat):List Int:=t.minutes.getD m []
end Go.Sh
namespace Go.En
open Go Go.Ab Go.Sh
end Go.En
namespace Go.Ab
open Go Go.RowKit Go.Proofs Go.Sh Go.En
def h34 (r:Run) (m p:Int):Hint:={ X:=Nat,M:=fun i=>[(11,iv i),(10,.ptr 5000 [])],H:=fun i=>[(5000,.cells 37 (cSpan (rhullTo (rfL r (whenIs r m p)) (fun l=>spanOf r l m.toNat p.toNat) i)))],I:=fun i=>i<=(rfL r (whenIs r m p)).length,mu:=fun i=>(rfL r (whenIs r m p)).length - i,x0:=(0:Nat),nx:=fun i=>i + 1 }
def h39 (r:Run) (a b:Int):Hint:={ X:=Nat,M:=fun i=>[(10,iv (cntL (rfL r (sameIs r a b)) (smL a.toNat b.toNat) i)),(11,iv i)],I:=fun i=>i<=(rfL r (sameIs r a b)).length,mu:=fun i=>(rfL r (sameIs r a b)).length - i,x0:=(0:Nat),nx:=fun i=>i + 1 }
def h109 (r:Run) (l:List Int) (p:Nat):Hint:={ X:=Nat,M:=fun i=>[(8,iv i),(7,.ptr 5000 [])],H:=fun i=>[(5000,.cells 37 (cSpan (sumTo r (fun m=>spanOf r l m p) i)))],I:=fun i=>i<=r.machines.length,mu:=fun i=>r.machines.length - i,x0:=(0:Nat),nx:=fun i=>i + 1 }
def h66 (r:Run) (p:Int):Hint:={ X:=Nat,M:=fun i=>[(9,iv i),(8,.ptr 5000 [])],H:=fun i=>[(5000,.cells 37 (cSpan (rhullTo (rfL r (isPlate r p)) (oldL r p.toNat) i)))],I:=fun i=>i<=(rfL r (isPlate r p)).length,mu:=fun i=>(rfL r (isPlate r p)).length - i,x0:=(0:Nat),nx:=fun i=>i + 1 }
def h67 (r:Run) (m:Int):Hint:={ X:=Nat,M:=fun i=>[(8,bv (nvTo r (rfL r (isMachine r m)) m.toNat i)),(9,bv (suTo r (rfL r (isMachine r m)) m.toNat i)),(10,iv i)],I:=fun i=>i<=(rfL r (isMachine r m)).length,mu:=fun i=>(rfL r (isMachine r m)).length - i,x0:=(0:Nat),nx:=fun i=>i + 1 }
def h135 (r:Run) (l:List Int):Hint:={ X:=Nat,M:=fun i=>[(6,iv i),(5,.ptr 5000 [])],H:=fun i=>[(5000,.cells 37 (cSpan (sumTo r (fun m=>minutes (spanOf r l m) r.plates.toNat) i)))],I:=fun i=>i<=r.machines.length,mu:=fun i=>r.machines.length - i,x0:=(0:Nat),nx:=fun i=>i + 1 }
def h111 (r:Run) (l:List (List Int)) (f:Nat) (m:Int):Hint:={ X:=Nat,M:=fun i=>[(9,bv (allTo r l f m i).1),(11,iv i),(10,.ptr 5000 [])],H:=fun i=>[(5000,.cells 37 (cSpan (allTo r l f m i).2))],I:=fun i=>i<=l.length,mu:=fun i=>l.length - i,x0:=(0:Nat),nx:=fun i=>i + 1 }
def h32 (r:Run) (f p:Int):Hint:={ X:=Nat,M:=fun i=>[(10,bv (oldTo r (rfL r (readIs r f p)) f.toNat p.toNat i)),(11,bv (newTo r (rfL r (readIs r f p)) f.toNat p.toNat i)),(12,iv i)],I:=fun i=>i<=(rfL r (readIs r f p)).length,mu:=fun i=>(rfL r (readIs r f p)).length - i,x0:=(0:Nat),nx:=fun i=>i + 1 }
def h70 (t:Trth):Hint:={ X:=Nat,M:=fun i=>[(4,iv i),(3,.ptr 5000 [])],H:=fun i=>[(5000,.cells 56 [.vec 5001,.vec 5002]),(5001,.vec 30 1 i (fun k=>[aInts (tmin t k)])),(5002,.vec 3 1 t.frm.length (fun k=>[iv (t.frm.getD k 0)]))],I:=fun i=>i<=t.minutes.length,mu:=fun i=>t.minutes.length - i,x0:=(0:Nat),nx:=fun i=>i + 1 }
end Go.Ab
namespace Go.Ab
open Go Go.RowKit Go.Proofs Go.Sh Go.En
end Go.Ab
namespace Go.Sh
def eqv (v x:Int):Bool:=decide (v=x)
end Go.Sh
namespace Go.Ab
open Go Go.RowKit Go.Proofs Go.Sh Go.En
def h145 (l:List Int) (v:Int):Hint:={ X:=Nat,M:=fun i=>[(8,iv i)],I:=fun i=>i<=l.length /\ ∀ j,j < i->eqv v (l.getD j 0)=false,mu:=fun i=>l.length - i,x0:=(0:Nat),nx:=fun i=>i + 1 }
end Go.Ab
namespace Go.Ab
open Go Go.RowKit Go.Proofs Go.Sh Go.En
end Go.Ab
namespace Go.Proofs
open Go.Shelf
end Go.Proofs
namespace Go.Sh
end Go.Sh
namespace Go.Ab
open Go Go.RowKit Go.Sort Go.Sh
def rowI (t:TypeId) (l:List Int):OB := .vec t 1 l.length (fun i=>[iv (l.getD i 0)])
end Go.Ab
namespace Go.Sh
def wfTo (l:List WayS) (f n:Nat):List Int:=(l.take n).map (fun w=>w.frm.getD f 0)
def wf (l:List WayS) (f:Nat):List Int:=l.map (fun w=>w.frm.getD f 0)
end Go.Sh
namespace Go.Ab
open Go Go.RowKit Go.Proofs Go.Sh Go.En
def h90 (l:List WayS) (f:Nat):Hint:={ X:=Nat,M:=fun i=>[(10,iv i),(5,.vec 5000)],H:=fun i=>[(5000,rowI 3 (wfTo l f i))],I:=fun i=>i<=l.length,mu:=fun i=>l.length - i,x0:=(0:Nat),nx:=fun i=>i + 1 }
end Go.Ab
namespace Go.Ab
open Go Go.RowKit Go.Proofs Go.Sh Go.En
end Go.Ab
namespace Go.Sh
def eqN (i j:Nat):Bool:=decide (i=j)
theorem eqN_t {i j:Nat} (h:eqN i j=true):i=j:=of_decide_eq_true h
theorem eqN_f {i j:Nat} (h:eqN i j=false):i ≠ j:=of_decide_eq_false h
def chLen (r:Run) (j i:Nat):Nat:=if j < i then (mach r j).changes.length else 0
def nwLen (r:Run) (j i:Nat):Nat:=if j < i then (fnd r j).new.length else 0
theorem chLen_self (r:Run) (j:Nat):chLen r j (j + 1)=(mach r j).changes.length:=if_pos (Nat.lt_succ_self j)
theorem chLen_other {r:Run} {j i:Nat} (h:i ≠ j):chLen r j (i + 1)=chLen r j i:=by
 unfold chLen
 by_cases h1:j < i
 ·rw [if_pos h1,if_pos (by omega)]
 ·rw [if_neg h1,if_neg (by omega)]
theorem nwLen_self (r:Run) (j:Nat):nwLen r j (j + 1)=(fnd r j).new.length:=if_pos (Nat.lt_succ_self j)
theorem nwLen_other {r:Run} {j i:Nat} (h:i ≠ j):nwLen r j (i + 1)=nwLen r j i:=by
 unfold nwLen
 by_cases h1:j < i
 ·rw [if_pos h1,if_pos (by omega)]
 ·rw [if_neg h1,if_neg (by omega)]
end Go.Sh
namespace Go.Ab
open Go Go.RowKit Go.Proofs Go.Sh Go.En
def focS:CallSpec:={ args:=[],res := .any }
def ou20 (r:Run) (jm jf:Nat):OutSpec:={ args:=[vRun r],pre:=small r,res := .agg [iv r.plates,iv r.last,.vec 0,.vec 1],hout:=[(0,.vecx 42 2 r.machines.length (fun k=>cMach (mach r k)) jm [.vec 2,iv (mach r jm).rate]),(1,.vecx 32 3 r.found.length (fun k=>cFnd (fnd r k)) jf [iv (fnd r jf).minute,.vec 3,aInts (fnd r jf).frm]),(2,.vec 37 2 (chLen r jm r.machines.length) (fun p=>cSpan (chg (mach r jm) p))),(3,.vec 3 1 (nwLen r jf r.found.length) (fun p=>[iv ((fnd r jf).new.getD p 0)]))] }
def h20xa (r:Run) (jm jf:Nat):Hint:={ X:=Nat,M:=fun i=>[(4,iv i)],H:=fun i=>[(56,.cells 25 [iv r.plates,iv r.last,.vec 5000,nilv]),(5000,.vecx 42 2 i (fun k=>cMach (mach r k)) jm [.vec 5002,iv (mach r jm).rate]),(5002,.vec 37 2 (chLen r jm i) (fun p=>cSpan (chg (mach r jm) p)))],I:=fun i=>i<=r.machines.length,mu:=fun i=>r.machines.length - i,x0:=(0:Nat),nx:=fun i=>i + 1 }
def h20xb (r:Run) (jm jf:Nat):Hint:={ X:=Nat,M:=fun i=>[(5,iv i)],H:=fun i=>[(56,.cells 25 [iv r.plates,iv r.last,.vec 5000,.vec 5001]),(5000,.vecx 42 2 r.machines.length (fun k=>cMach (mach r k)) jm [.vec 5002,iv (mach r jm).rate]),(5002,.vec 37 2 (chLen r jm r.machines.length) (fun p=>cSpan (chg (mach r jm) p))),(5001,.vecx 32 3 i (fun k=>cFnd (fnd r k)) jf [iv (fnd r jf).minute,.vec 5003,aInts (fnd r jf).frm]),(5003,.vec 3 1 (nwLen r jf i) (fun p=>[iv ((fnd r jf).new.getD p 0)]))],I:=fun i=>i<=r.found.length,mu:=fun i=>r.found.length - i,x0:=(0:Nat),nx:=fun i=>i + 1 }
end Go.Ab
