/- TopAltered returns true for every input, and leaves what it was handed as it was. No condition. -/
import Derived.Test.YtebodmfjbfiljaaQTopAltered4
import Derived.Deep.Slices
import Derived.ChangeShapes
import Derived.Carry
import Derived.OpenShut
import Derived.SizedLaws
import Derived.Test.YtebodmfjbfiljaaRows
import Derived.ProofKit
import Derived.JoinedOf
set_option linter.all false
set_option linter.deprecated false
namespace Go.Ab
open Go Go.RowKit Go.Proofs Go.Sh Go.En
theorem w86 (t:Twn) (b:Int) :
  Triple Try.prog 86 (s86 t b):=by
 refine triple_of Try.func86 rfl Try.call86 T0_ok _ rfl rfl rfl rfl (Nat.le_of_ble_eq_true (by kernel_rfl)) (fun _ _ _ _ h=>h) ?_
 intro _ C hC _ hE
 obtain ⟨P,w0,E0,av,hA,ro,df⟩:=C
 obtain ⟨rfl,rfl,rfl⟩:=hC
 refine swp_seq ?_
 refine zR [2,3] [0,8] (Ak 3 tv) ?_
 refine swp_seq ?_
 refine swp_ent (zF 0) ?_
 refine swp_ent (zF 8) ?_
 refine zR [4] [] (Ak 2 tv) ?_
 refine swp_ret ?_
 exact zT [] (An (Ak 1 tv) (An (An (zr 120) (An (An (zr (AV.rp [AV.rp (cKn t)])) (zr nilN)) (An (An (zr (AV.rp [iv b])) (zr nilN)) tv))) (An (zr true) (An (zr true) (zr true)))))
theorem t86 (t:Twn) (b:Int):Triple Try.prog 86 (s86 t b):=by
 apply w86
 all_goals (first | ((repeat intro _) <;> (try simp only [Bool.cond_true_left,Bool.cond_false_right,Bool.not_not,Bool.not_eq_true',Bool.not_eq_false',Bool.or_eq_true,Bool.or_eq_false_iff,Bool.and_eq_true,decide_eq_true_eq,decide_eq_false_iff_not,inI,big] at *) <;> first | (exact rfl) | omega | (exact ⟨Nat.zero_le _,fun j hj=>absurd hj (Nat.not_lt_zero j)⟩) | (simp_all; done) | (simp_all; omega)) | skip)
abbrev q3m (t:Twn) (Pq:Prop):Prop:=okH (Twn.house t)=true/\(Twn.places t).length=(Hs.things (Twn.house t)).length->Pq
abbrev q3n (t:Twn) (x0:Nat) (Pq:Prop):Prop:=x0<=(Hs.things (Twn.house t)).length->Pq
abbrev q3o (t:Twn) (x0:Nat) (Pq:Prop):Prop:=q3n t x0 (decide ((x0:Int) < (↑((Hs.things (Twn.house t)).length):Int))=true->Pq)
abbrev q3p (t:Twn) (x0:Nat) (Pq:Prop):Prop:=q3o t x0 ((!decide ((x0:Int) ∈ mkeys (pagesT t)))=true->Pq)
abbrev q3q (t:Twn) (x0:Nat) (Pq:Prop):Prop:=q3o t x0 ((!decide ((x0:Int) ∈ mkeys (pagesT t)))=false->Pq)
abbrev q3r (t:Twn) (x9:Nat) (Pq:Prop):Prop:=x9<=(Hs.things (Twn.house t)).length->Pq
abbrev q3s (t:Twn) (x9:Nat) (Pq:Prop):Prop:=q3r t x9 (decide ((x9:Int) < (↑((Hs.things (Twn.house t)).length):Int))=true->Pq)
abbrev q3t (t:Twn) (b:Int) (x9:Nat) (Pq:Prop):Prop:=q3s t x9 ((bif decide (thrN t x9=1) then !decide ((Twn.places t).getD x9 0=b) else false)=false->Pq)
abbrev q3u (t:Twn) (b:Int) (x9:Nat) (Pq:Prop):Prop:=q3s t x9 ((bif bif decide (thrN t x9=1) then !decide ((Twn.places t).getD x9 0=b) else false then false else false)=false->Pq)
abbrev q3v (t:Twn) (b:Int) (j8:Nat) (Pq:Prop):Prop:=j8 < (Hs.things (Twn.house t)).length/\leftP t b j8=true->True->Pq
abbrev q3w (t:Twn) (b:Int) (x0:Nat) (j8:Nat) (Pq:Prop):Prop:=q3v t b j8 ((!decide ((↑(pgN (Twn.house t) j8):Int)=(x0:Int)))=false->Pq)
abbrev q3x (t:Twn) (b:Int) (x0:Nat) (Pq:Prop):Prop:=q3q t x0 (decide ((↑(lfT t b x0):Int)=0)=true->Pq)
abbrev q3y (t:Twn) (b:Int) (x0:Nat) (Pq:Prop):Prop:=q3q t x0 (decide ((↑(lfT t b x0):Int)=0)=false->Pq)
abbrev q3z (t:Twn) (b:Int) (x0:Nat) (Pq:Prop):Prop:=q3y t b x0 (decide ((↑(frT t b x0):Int)=0)=true->Pq)
abbrev q40 (t:Twn) (b:Int) (x0:Nat) (Pq:Prop):Prop:=q3y t b x0 (decide ((↑(frT t b x0):Int)=0)=false->Pq)
abbrev q41 (t:Twn) (x0:Nat) (Pq:Prop):Prop:=q3n t x0 (decide ((x0:Int) < (↑((Hs.things (Twn.house t)).length):Int))=false->Pq)
theorem w51 (t:Twn) (b:Int)
 (o0:q3m t (0=(↑0:Int)))
 (o1:q3m t ((thTo (lostB t b) 0).length=0))
 (o2:q3m t ((thTo (staleB t b) 0).length=0))
 (o3:q3m t (0<=(Hs.things (Twn.house t)).length))
 (o4:q3m t (∀ (x0:Nat),q3o t x0 (inI (x0:Int))))
 (o5:q3m t (∀ (x0:Nat),q3p t x0 (inI ((x0:Int) + 1))))
 (o6:q3m t (∀ (x0:Nat),q3p t x0 ((x0:Int) + 1=(↑(x0 + 1):Int))))
 (o7:q3m t (∀ (x0:Nat),q3p t x0 ((thTo (lostB t b) x0).length=(thTo (lostB t b) (x0 + 1)).length)))
 (o8:q3m t (∀ (x0:Nat),q3p t x0 (∀ (i3:Nat),i3 < (thTo (lostB t b) x0).length -> [iv ((thTo (lostB t b) x0).getD i3 0)] = [iv ((thTo (lostB t b) (x0 + 1)).getD i3 0)])))
 (o9:q3m t (∀ (x0:Nat),q3p t x0 ((thTo (staleB t b) x0).length=(thTo (staleB t b) (x0 + 1)).length)))
 (o10:q3m t (∀ (x0:Nat),q3p t x0 (∀ (i5:Nat),i5 < (thTo (staleB t b) x0).length -> [iv ((thTo (staleB t b) x0).getD i5 0)] = [iv ((thTo (staleB t b) (x0 + 1)).getD i5 0)])))
 (o11:q3m t (∀ (x0:Nat),q3p t x0 (x0 + 1<=(Hs.things (Twn.house t)).length)))
 (o12:q3m t (∀ (x0:Nat),q3p t x0 ((Hs.things (Twn.house t)).length - (x0 + 1) < (Hs.things (Twn.house t)).length - x0)))
 (o13:q3m t (∀ (x0:Nat),q3q t x0 (0=(↑0:Int))))
 (o14:q3m t (∀ (x0:Nat),q3q t x0 (0=(↑(lfN t b x0 0):Int))))
 (o15:q3m t (∀ (x0:Nat),q3q t x0 (0=(↑(frN t b x0 0):Int))))
 (o16:q3m t (∀ (x0:Nat),q3q t x0 (0<=(Hs.things (Twn.house t)).length)))
 (o17:q3m t (∀ (x0:Nat),q3q t x0 (∀ (x9:Nat),q3s t x9 (0<=(x9:Int)))))
 (o18:q3m t (∀ (x0:Nat),q3q t x0 (∀ (x9:Nat),q3s t x9 ((x9:Int) < (↑((Hs.things (Twn.house t)).length):Int)))))
 (o19:q3m t (∀ (x0:Nat),q3q t x0 (∀ (x9:Nat),q3s t x9 (decide (thrN t x9=1)=true->0<=(x9:Int)))))
 (o20:q3m t (∀ (x0:Nat),q3q t x0 (∀ (x9:Nat),q3s t x9 (decide (thrN t x9=1)=true->(x9:Int) < (↑((Twn.places t).length):Int)))))
 (o21:q3m t (∀ (x0:Nat),q3q t x0 (∀ (x9:Nat),q3s t x9 ((bif decide (thrN t x9=1) then !decide ((Twn.places t).getD x9 0=b) else false)=true->x9 < (Hs.things (Twn.house t)).length/\leftP t b x9=true))))
 (o22:q3m t (∀ (x0:Nat),q3q t x0 (∀ (x9:Nat),q3t t b x9 (some (OB.cells 3 [iv (↑(lfN t b x0 x9):Int)])=some (OB.cells 3 [iv (↑(lfN t b x0 (x9 + 1)):Int)])))))
 (o23:q3m t (∀ (x0:Nat),q3q t x0 (∀ (x9:Nat),q3t t b x9 (some (OB.cells 3 [iv (↑(frN t b x0 x9):Int)])=some (OB.cells 3 [iv (↑(frN t b x0 (x9 + 1)):Int)])))))
 (o24:q3m t (∀ (x0:Nat),q3q t x0 (∀ (x9:Nat),q3t t b x9 (some (OB.cells 3 [iv (↑(lfN t b x0 x9):Int)])=some (OB.cells 3 [iv (↑(lfN t b x0 (x9 + 1)):Int)])))))
 (o25:q3m t (∀ (x0:Nat),q3q t x0 (∀ (x9:Nat),q3t t b x9 (some (OB.cells 3 [iv (↑(frN t b x0 x9):Int)])=some (OB.cells 3 [iv (↑(frN t b x0 (x9 + 1)):Int)])))))
 (o26:q3m t (∀ (x0:Nat),q3q t x0 (∀ (x9:Nat),q3s t x9 ((bif bif decide (thrN t x9=1) then !decide ((Twn.places t).getD x9 0=b) else false then false else false)=true->(↑(lfN t b x0 (x9 + 1)):Int)=(↑(lfT t b x0):Int)))))
 (o27:q3m t (∀ (x0:Nat),q3q t x0 (∀ (x9:Nat),q3s t x9 ((bif bif decide (thrN t x9=1) then !decide ((Twn.places t).getD x9 0=b) else false then false else false)=true->(↑(frN t b x0 (x9 + 1)):Int)=(↑(frT t b x0):Int)))))
 (o28:q3m t (∀ (x0:Nat),q3q t x0 (∀ (x9:Nat),q3u t b x9 (inI ((x9:Int) + 1)))))
 (o29:q3m t (∀ (x0:Nat),q3q t x0 (∀ (x9:Nat),q3u t b x9 ((x9:Int) + 1=(↑(x9 + 1):Int)))))
 (o30:q3m t (∀ (x0:Nat),q3q t x0 (∀ (x9:Nat),q3u t b x9 (x9 + 1<=(Hs.things (Twn.house t)).length))))
 (o31:q3m t (∀ (x0:Nat),q3q t x0 (∀ (x9:Nat),q3u t b x9 ((Hs.things (Twn.house t)).length - (x9 + 1) < (Hs.things (Twn.house t)).length - x9))))
 (o32:q3m t (∀ (x0:Nat),q3q t x0 (∀ (x9:Nat),q3r t x9 (decide ((x9:Int) < (↑((Hs.things (Twn.house t)).length):Int))=false->(↑(lfN t b x0 x9):Int)=(↑(lfT t b x0):Int)))))
 (o33:q3m t (∀ (x0:Nat),q3q t x0 (∀ (x9:Nat),q3r t x9 (decide ((x9:Int) < (↑((Hs.things (Twn.house t)).length):Int))=false->(↑(frN t b x0 x9):Int)=(↑(frT t b x0):Int)))))
 (o34:q3m t (∀ (x0:Nat),q3q t x0 (∀ (j8:Nat),q3v t b j8 ((!decide ((↑(pgN (Twn.house t) j8):Int)=(x0:Int)))=true->(↑(lfN t b x0 j8):Int)=(↑(lfN t b x0 (j8 + 1)):Int)))))
 (o35:q3m t (∀ (x0:Nat),q3q t x0 (∀ (j8:Nat),q3v t b j8 ((!decide ((↑(pgN (Twn.house t) j8):Int)=(x0:Int)))=true->(↑(frN t b x0 j8):Int)=(↑(frN t b x0 (j8 + 1)):Int)))))
 (o36:q3m t (∀ (x0:Nat),q3q t x0 (∀ (j8:Nat),q3w t b x0 j8 (inI ((↑(lfN t b x0 j8):Int) + 1)))))
 (o37:q3m t (∀ (x0:Nat),q3q t x0 (∀ (j8:Nat),q3w t b x0 j8 (freshT t j8=true->inI ((↑(frN t b x0 j8):Int) + 1)))))
 (o38:q3m t (∀ (x0:Nat),q3q t x0 (∀ (j8:Nat),q3w t b x0 j8 (freshT t j8=true->(↑(lfN t b x0 j8):Int) + 1=(↑(lfN t b x0 (j8 + 1)):Int)))))
 (o39:q3m t (∀ (x0:Nat),q3q t x0 (∀ (j8:Nat),q3w t b x0 j8 (freshT t j8=true->(↑(frN t b x0 j8):Int) + 1=(↑(frN t b x0 (j8 + 1)):Int)))))
 (o40:q3m t (∀ (x0:Nat),q3q t x0 (∀ (j8:Nat),q3w t b x0 j8 (freshT t j8=false->(↑(lfN t b x0 j8):Int) + 1=(↑(lfN t b x0 (j8 + 1)):Int)))))
 (o41:q3m t (∀ (x0:Nat),q3q t x0 (∀ (j8:Nat),q3w t b x0 j8 (freshT t j8=false->(↑(frN t b x0 j8):Int)=(↑(frN t b x0 (j8 + 1)):Int)))))
 (o42:q3m t (∀ (x0:Nat),q3x t b x0 ((thTo (lostB t b) x0).length + 1<=65536)))
 (o43:q3m t (∀ (x0:Nat),q3x t b x0 (inI ((x0:Int) + 1))))
 (o44:q3m t (∀ (x0:Nat),q3x t b x0 ((x0:Int) + 1=(↑(x0 + 1):Int))))
 (o45:q3m t (∀ (x0:Nat),q3x t b x0 ((thTo (lostB t b) x0).length + 1=(thTo (lostB t b) (x0 + 1)).length)))
 (o46:q3m t (∀ (x0:Nat),q3x t b x0 (∀ (i49:Nat),i49 < (thTo (lostB t b) x0).length + 1->catF (thTo (lostB t b) x0).length (fun (i:Nat)=>[iv ((thTo (lostB t b) x0).getD i 0)]) (fun (j:Nat)=>List.getD [[iv (x0:Int)]] j (TI.za ti3)) i49 = [iv ((thTo (lostB t b) (x0 + 1)).getD i49 0)])))
 (o47:q3m t (∀ (x0:Nat),q3x t b x0 ((thTo (staleB t b) x0).length=(thTo (staleB t b) (x0 + 1)).length)))
 (o48:q3m t (∀ (x0:Nat),q3x t b x0 (∀ (i51:Nat),i51 < (thTo (staleB t b) x0).length -> [iv ((thTo (staleB t b) x0).getD i51 0)] = [iv ((thTo (staleB t b) (x0 + 1)).getD i51 0)])))
 (o49:q3m t (∀ (x0:Nat),q3x t b x0 (x0 + 1<=(Hs.things (Twn.house t)).length)))
 (o50:q3m t (∀ (x0:Nat),q3x t b x0 ((Hs.things (Twn.house t)).length - (x0 + 1) < (Hs.things (Twn.house t)).length - x0)))
 (o51:q3m t (∀ (x0:Nat),q3z t b x0 ((thTo (staleB t b) x0).length + 1<=65536)))
 (o52:q3m t (∀ (x0:Nat),q3z t b x0 (inI ((x0:Int) + 1))))
 (o53:q3m t (∀ (x0:Nat),q3z t b x0 ((x0:Int) + 1=(↑(x0 + 1):Int))))
 (o54:q3m t (∀ (x0:Nat),q3z t b x0 ((thTo (lostB t b) x0).length=(thTo (lostB t b) (x0 + 1)).length)))
 (o55:q3m t (∀ (x0:Nat),q3z t b x0 (∀ (i54:Nat),i54 < (thTo (lostB t b) x0).length -> [iv ((thTo (lostB t b) x0).getD i54 0)] = [iv ((thTo (lostB t b) (x0 + 1)).getD i54 0)])))
 (o56:q3m t (∀ (x0:Nat),q3z t b x0 ((thTo (staleB t b) x0).length + 1=(thTo (staleB t b) (x0 + 1)).length)))
 (o57:q3m t (∀ (x0:Nat),q3z t b x0 (∀ (i56:Nat),i56 < (thTo (staleB t b) x0).length + 1->catF (thTo (staleB t b) x0).length (fun (i:Nat)=>[iv ((thTo (staleB t b) x0).getD i 0)]) (fun (j:Nat)=>List.getD [[iv (x0:Int)]] j (TI.za ti3)) i56 = [iv ((thTo (staleB t b) (x0 + 1)).getD i56 0)])))
 (o58:q3m t (∀ (x0:Nat),q3z t b x0 (x0 + 1<=(Hs.things (Twn.house t)).length)))
 (o59:q3m t (∀ (x0:Nat),q3z t b x0 ((Hs.things (Twn.house t)).length - (x0 + 1) < (Hs.things (Twn.house t)).length - x0)))
 (o60:q3m t (∀ (x0:Nat),q40 t b x0 (inI ((x0:Int) + 1))))
 (o61:q3m t (∀ (x0:Nat),q40 t b x0 ((x0:Int) + 1=(↑(x0 + 1):Int))))
 (o62:q3m t (∀ (x0:Nat),q40 t b x0 ((thTo (lostB t b) x0).length=(thTo (lostB t b) (x0 + 1)).length)))
 (o63:q3m t (∀ (x0:Nat),q40 t b x0 (∀ (i58:Nat),i58 < (thTo (lostB t b) x0).length -> [iv ((thTo (lostB t b) x0).getD i58 0)] = [iv ((thTo (lostB t b) (x0 + 1)).getD i58 0)])))
 (o64:q3m t (∀ (x0:Nat),q40 t b x0 ((thTo (staleB t b) x0).length=(thTo (staleB t b) (x0 + 1)).length)))
 (o65:q3m t (∀ (x0:Nat),q40 t b x0 (∀ (i60:Nat),i60 < (thTo (staleB t b) x0).length -> [iv ((thTo (staleB t b) x0).getD i60 0)] = [iv ((thTo (staleB t b) (x0 + 1)).getD i60 0)])))
 (o66:q3m t (∀ (x0:Nat),q40 t b x0 (x0 + 1<=(Hs.things (Twn.house t)).length)))
 (o67:q3m t (∀ (x0:Nat),q40 t b x0 ((Hs.things (Twn.house t)).length - (x0 + 1) < (Hs.things (Twn.house t)).length - x0)))
 (o68:q3m t (∀ (x0:Nat),q41 t x0 ((thTo (lostB t b) x0).length=(lostL t b).length)))
 (o69:q3m t (∀ (x0:Nat),q41 t x0 (∀ (i62:Nat),i62 < (lostL t b).length -> [iv ((thTo (lostB t b) x0).getD i62 0)] = [iv ((lostL t b).getD i62 0)])))
 (o70:q3m t (∀ (x0:Nat),q41 t x0 ((thTo (staleB t b) x0).length=(staleL t b).length)))
 (o71:q3m t (∀ (x0:Nat),q41 t x0 (∀ (i64:Nat),i64 < (staleL t b).length -> [iv ((thTo (staleB t b) x0).getD i64 0)] = [iv ((staleL t b).getD i64 0)]))) :
  Triple Try.prog 51 (s51 t b):=by
 refine triple_of Try.func51 rfl Try.call51 T0_ok _ rfl rfl rfl rfl (Nat.le_of_ble_eq_true (by kernel_rfl)) (fun _ _ _ _ h=>h) ?_
 intro hpre C hC _ hE
 obtain ⟨P,w0,E0,av,hA,ro,df⟩:=C
 obtain ⟨rfl,rfl,rfl⟩:=hC
 refine swp_seq ?_
 refine zR [1,2,4,5] [0] (Ak 3 tv) ?_
 refine swp_seq ?_
 refine swp_seq ?_
 refine zR [1,2,4,5,17,18] [0] (Ak 6 tv) ?_
 refine swp_block ?_
 refine zL (Hint.ann (h51a t b) [(1,iv b),(2,AV.ptr 0 []),(17,iv (↑((Hs.things (Twn.house t)).length):Int))] [(0,OB.cells 91 [AV.rp (cKn t)])] 10072) (zE hE [] [(0,.same 0),(5000,.nil),(5001,.nil)] [1,17] [0] (An (An (An (zr (iv b)) (zr true)) (An (An (zr (some (Src.same 0))) (zr nilP)) (An (An (zr (iv (↑((Hs.things (Twn.house t)).length):Int))) (zr true)) (An (An (ci (o0 hpre)) (zr nilN)) (An (zr (some Src.nil)) (An (zr (some Src.nil)) tv)))))) (An (An (An (zr (OB.cells 91 [AV.rp (cKn t)])) (zr true)) (An (o1 hpre) (An (o2 hpre) tv))) (An (zr true) (zr true))))) (o3 hpre) (fun (x0:Nat) hx0 => ?_)
 refine swp_seq ?_
 refine zR [1,2,17,18,4,5,19] [0,5000,5001] (Ak 1 tv) ?_
 refine swp_seq ?_
 refine zI (decide ((x0:Int) < (↑((Hs.things (Twn.house t)).length):Int))) (fun y1 => ?_) (fun y1 => ?_)
 ·refine swp_skip ?_
  refine swp_seq ?_
  refine swp_block ?_
  refine swp_seq ?_
  refine zR [1,2,17,18,4,5,6] [0,5000,5001,10088] (Ak 3 tv) ?_
  refine swp_seq ?_
  refine swp_seq ?_
  refine zR [1,2,17,18,4,5,6,8] [0,5000,5001,10088] (Ak 5 (An (An (zr Try.prog) (o4 hpre x0 hx0 y1)) (Ak 5 tv))) ?_
  refine swp_seq ?_
  refine zR [1,2,17,18,4,5,6,31] [0,5000,5001,10088] (Ak 2 tv) ?_
  refine zI (!decide ((x0:Int) ∈ mkeys (pagesT t))) (fun y2 => ?_) (fun y2 => ?_)
  ·refine swp_exit ?_
   refine zR [1,2,17,18,4,5] [0,5000,5001] (An (o5 hpre x0 hx0 y1 y2) (Ak 1 tv)) ?_
   exact zn (zE hE [] [(0,.same 0),(5000,.same 5000),(5001,.same 5001)] [1,17] [0] (An (An (An (zr (iv b)) (zr true)) (An (An (zr (some (Src.same 0))) (zr nilP)) (An (An (zr (iv (↑((Hs.things (Twn.house t)).length):Int))) (zr true)) (An (An (ci (o6 hpre x0 hx0 y1 y2)) (zr nilN)) (An (zr (some (Src.same 5000))) (An (zr (some (Src.same 5001))) tv)))))) (An (An (An (zr (OB.cells 91 [AV.rp (cKn t)])) (zr true)) (An (An (zr 3) (An (zr 1) (An (o7 hpre x0 hx0 y1 y2) (fun (i3:Nat)=>(fun (y4:i3 < (thTo (lostB t b) x0).length)=>(o8 hpre x0 hx0 y1 y2 i3 y4)))))) (An (An (zr 3) (An (zr 1) (An (o9 hpre x0 hx0 y1 y2) (fun (i5:Nat)=>(fun (y6:i5 < (thTo (staleB t b) x0).length)=>(o10 hpre x0 hx0 y1 y2 i5 y6)))))) tv))) (An (zr true) (zr true))))) (o11 hpre x0 hx0 y1 y2) (o12 hpre x0 hx0 y1 y2)
  ·refine swp_skip ?_
   refine swp_seq ?_
   refine zR [1,2,17,18,4,5,6,9,10] [0,5000,5001,10088,10208,10216] (Ak 4 tv) ?_
   refine swp_seq ?_
   refine swp_seq ?_
   refine zC ([(2,CallSpec.eq (s86 t b) [true,true])]) [1,2,17,18,4,5,6,9,10,34] [0,5000,5001,10088,10208,10216] (Ak 2 (An (An (An (zr (AV.rp (cKn t))) (An (zr (iv b)) tv)) (An (t86 (t) (b)) (Ak 2 (fun (i7:Env)=>tv)))) tv)) ?_
   refine swp_block ?_
   refine zG (r51 t b x0) 10264 2010264 0 [2,6,9,10] ([AV.rp [AV.rp (cKn t)],AV.rp [iv b]]) Try.func120 Try.call120 rfl (fun C hC hY8 hE => ?_) (fun (j8:Nat) hj8 hp8 C hC hE => ?_) ?_
   ·obtain ⟨P,w0,E0,av,hA,ro,df⟩:=C
    subst hC
    refine swp_seq ?_
    refine zR [0,1,2,9,10,11] [0,5000,5001,10088,10208,10216] (Ak 6 tv) ?_
    refine swp_block ?_
    refine zL (Hint.ann (h51b t b x0) [(0,AV.fn 0),(1,AV.rp [AV.rp (cKn t)]),(2,AV.rp [iv b]),(9,AV.sl 3 (Hs.things (Twn.house t)).length fun (i:Nat)=>cKnd t i),(10,iv (↑((Hs.things (Twn.house t)).length):Int))] [(0,OB.cells 91 [AV.rp (cKn t)]),(5000,OB.vec 3 1 (thTo (lostB t b) x0).length fun (i:Nat)=>[iv ((thTo (lostB t b) x0).getD i 0)]),(5001,OB.vec 3 1 (thTo (staleB t b) x0).length fun (i:Nat)=>[iv ((thTo (staleB t b) x0).getD i 0)]),(10088,OB.cells 3 [iv (x0:Int)])] 20312) (zEn 10264 hE [] [(0,.same 0),(5000,.same 5000),(5001,.same 5001),(10088,.same 10088),(10208,.same 10208),(10216,.same 10216)] [0,1,2,9,10] [0,5000,5001,10088] (An (An (An (zr (AV.fn 0)) (zr true)) (An (An (zr (AV.rp [AV.rp (cKn t)])) (zr true)) (An (An (zr (AV.rp [iv b])) (zr true)) (An (An (zr (AV.sl 3 (Hs.things (Twn.house t)).length fun (i:Nat)=>cKnd t i)) (zr true)) (An (An (zr (iv (↑((Hs.things (Twn.house t)).length):Int))) (zr true)) (An (An (ci (o13 hpre x0 hx0 y1 y2)) (zr nilN)) tv)))))) (An (An (An (zr (OB.cells 91 [AV.rp (cKn t)])) (zr true)) (An (An (zr (OB.vec 3 1 (thTo (lostB t b) x0).length fun (i:Nat)=>[iv ((thTo (lostB t b) x0).getD i 0)])) (zr true)) (An (An (zr (OB.vec 3 1 (thTo (staleB t b) x0).length fun (i:Nat)=>[iv ((thTo (staleB t b) x0).getD i 0)])) (zr true)) (An (An (zr (OB.cells 3 [iv (x0:Int)])) (zr true)) (An (An (zr 3) (An (An (An (ci (o14 hpre x0 hx0 y1 y2)) (zr nilN)) tv) (zr true))) (An (An (zr 3) (An (An (An (ci (o15 hpre x0 hx0 y1 y2)) (zr nilN)) tv) (zr true))) tv)))))) (An (zr true) (zr true))))) (o16 hpre x0 hx0 y1 y2) (fun (x9:Nat) hx9 => ?_)
    refine swp_seq ?_
    refine zR [0,1,2,9,10,11,12] [0,5000,5001,10088,10208,10216] (Ak 1 tv) ?_
    refine swp_seq ?_
    refine zI (decide ((x9:Int) < (↑((Hs.things (Twn.house t)).length):Int))) (fun y10 => ?_) (fun y10 => ?_)
    ·refine swp_skip ?_
     refine swp_seq ?_
     refine swp_block ?_
     refine swp_seq ?_
     refine zR [0,1,2,9,10,11,5,4] [0,5000,5001,10088,10208,10216,20344] (Ak 1 (An (An (o17 hpre x0 hx0 y1 y2 x9 hx9 y10) (o18 hpre x0 hx0 y1 y2 x9 hx9 y10)) (Ak 4 tv))) ?_
     refine swp_seq ?_
     refine zC ([(19,CallSpec.eq (y51 t b x0 x9) [true,true])]) [0,1,2,9,10,11,37] [0,5000,5001,10088,10208,10216] (Ak 4 (An (fun (y11:decide (thrN t x9=1)=true)=>(An (Ak 1 tv) tv)) (An (fun (y12:decide (thrN t x9=1)=true)=>(An (An (fun (y13:decide (thrN t x9=1)=true)=>y12) tv) tv)) (An (fun (y14:decide (thrN t x9=1)=true)=>(An (An (fun (y15:decide (thrN t x9=1)=true)=>y14) tv) tv)) (An (fun (y16:decide (thrN t x9=1)=true)=>(An (An (fun (y17:decide (thrN t x9=1)=true)=>y16) tv) tv)) (An (fun (y18:decide (thrN t x9=1)=true)=>(An (An (fun (y19:decide (thrN t x9=1)=true)=>y18) tv) tv)) (An (fun (y20:decide (thrN t x9=1)=true)=>(An (Ak 1 tv) tv)) (An (fun (y21:decide (thrN t x9=1)=true)=>(An (An (fun (y22:decide (thrN t x9=1)=true)=>y21) (An (fun (y23:decide (thrN t x9=1)=true)=>y21) tv)) (An (o19 hpre x0 hx0 y1 y2 x9 hx9 y10 y21) (o20 hpre x0 hx0 y1 y2 x9 hx9 y10 y21)))) (An (fun (y24:decide (thrN t x9=1)=true)=>(An (An (fun (y25:decide (thrN t x9=1)=true)=>y24) tv) tv)) (An (fun (y26:decide (thrN t x9=1)=true)=>(An (Ak 1 tv) tv)) (An (fun (y27:decide (thrN t x9=1)=true)=>(An (An (fun (y28:decide (thrN t x9=1)=true)=>y27) (An (fun (y29:decide (thrN t x9=1)=true)=>y27) tv)) tv)) (An (An (fun (y30:decide (thrN t x9=1)=true)=>y30) (fun (y31:decide (thrN t x9=1)=false)=>tv)) (Ak 1 (An (fun (y32:(bif decide (thrN t x9=1) then !decide ((Twn.places t).getD x9 0=b) else false)=true)=>(An (Ak 1 tv) tv)) (An (fun (y33:(bif decide (thrN t x9=1) then !decide ((Twn.places t).getD x9 0=b) else false)=true)=>(An (Ak 1 tv) tv)) (An (fun (y34:(bif decide (thrN t x9=1) then !decide ((Twn.places t).getD x9 0=b) else false)=true)=>(An (Ak 1 tv) tv)) (An (An (fun (y35:(bif decide (thrN t x9=1) then !decide ((Twn.places t).getD x9 0=b) else false)=true)=>(An (An (fun (y36:(bif decide (thrN t x9=1) then !decide ((Twn.places t).getD x9 0=b) else false)=true)=>y35) (An (fun (y37:(bif decide (thrN t x9=1) then !decide ((Twn.places t).getD x9 0=b) else false)=true)=>y35) (An (fun (y38:(bif decide (thrN t x9=1) then !decide ((Twn.places t).getD x9 0=b) else false)=true)=>y35) tv))) (An (An (zr (iv (x9:Int))) (An (zr (AV.agg (cKnd t x9))) tv)) (An (hY8 x9 (o21 hpre x0 hx0 y1 y2 x9 hx9 y10 y35)) (Ak 1 (An (zr (some (OB.cells 91 [AV.rp (cKn t)]))) (An (zr (some (OB.cells 3 [iv (x0:Int)]))) (An (zr (some (OB.cells 3 [iv (↑(lfN t b x0 x9):Int)]))) (An (zr (some (OB.cells 3 [iv (↑(frN t b x0 x9):Int)]))) tv))))))))) (fun (y39:(bif decide (thrN t x9=1) then !decide ((Twn.places t).getD x9 0=b) else false)=false)=>(An (zr (some (OB.cells 91 [AV.rp (cKn t)]))) (An (zr (some (OB.cells 3 [iv (x0:Int)]))) (An (o22 hpre x0 hx0 y1 y2 x9 hx9 y10 y39) (An (o23 hpre x0 hx0 y1 y2 x9 hx9 y10 y39) (An (zr (some (OB.cells 91 [AV.rp (cKn t)]))) (An (zr (some (OB.cells 3 [iv (x0:Int)]))) (An (o24 hpre x0 hx0 y1 y2 x9 hx9 y10 y39) (An (o25 hpre x0 hx0 y1 y2 x9 hx9 y10 y39) tv)))))))))) (An (fun (y40:(bif decide (thrN t x9=1) then !decide ((Twn.places t).getD x9 0=b) else false)=true)=>(An (An (fun (y41:(bif decide (thrN t x9=1) then !decide ((Twn.places t).getD x9 0=b) else false)=true)=>y40) tv) tv)) (An (An (fun (y42:(bif decide (thrN t x9=1) then !decide ((Twn.places t).getD x9 0=b) else false)=true)=>y42) (fun (y43:(bif decide (thrN t x9=1) then !decide ((Twn.places t).getD x9 0=b) else false)=false)=>tv)) tv))))))))))))))))))) ?_
     refine zI (bif bif decide (thrN t x9=1) then !decide ((Twn.places t).getD x9 0=b) else false then false else false) (fun y44 => ?_) (fun y44 => ?_)
     ·refine swp_ret ?_
      exact zM (zEn 10264 hE [] [(0,.same 0),(5000,.same 5000),(5001,.same 5001),(10088,.same 10088),(10208,.same 10208),(10216,.same 10216)] [] [0,5000,5001,10088] (Ak 1 (An (An (An (zr (OB.cells 91 [AV.rp (cKn t)])) (zr true)) (An (An (zr (OB.vec 3 1 (thTo (lostB t b) x0).length fun (i:Nat)=>[iv ((thTo (lostB t b) x0).getD i 0)])) (zr true)) (An (An (zr (OB.vec 3 1 (thTo (staleB t b) x0).length fun (i:Nat)=>[iv ((thTo (staleB t b) x0).getD i 0)])) (zr true)) (An (An (zr (OB.cells 3 [iv (x0:Int)])) (zr true)) (An (An (zr 3) (An (An (An (ci (o26 hpre x0 hx0 y1 y2 x9 hx9 y10 y44)) (zr nilN)) tv) (zr true))) (An (An (zr 3) (An (An (An (ci (o27 hpre x0 hx0 y1 y2 x9 hx9 y10 y44)) (zr nilN)) tv) (zr true))) tv)))))) (An (zr true) (zr true)))))
     ·refine swp_skip ?_
      refine zR [0,1,2,9,10,11] [0,5000,5001,10088,10208,10216] (An (o28 hpre x0 hx0 y1 y2 x9 hx9 y10 y44) (Ak 1 tv)) ?_
      exact zn (zEn 10264 hE [] [(0,.same 0),(5000,.same 5000),(5001,.same 5001),(10088,.same 10088),(10208,.same 10208),(10216,.same 10216)] [0,1,2,9,10] [0,5000,5001,10088,10208,10216] (An (An (An (zr (AV.fn 0)) (zr true)) (An (An (zr (AV.rp [AV.rp (cKn t)])) (zr true)) (An (An (zr (AV.rp [iv b])) (zr true)) (An (An (zr (AV.sl 3 (Hs.things (Twn.house t)).length fun (i:Nat)=>cKnd t i)) (zr true)) (An (An (zr (iv (↑((Hs.things (Twn.house t)).length):Int))) (zr true)) (An (An (ci (o29 hpre x0 hx0 y1 y2 x9 hx9 y10 y44)) (zr nilN)) tv)))))) (An (An (An (zr (OB.cells 91 [AV.rp (cKn t)])) (zr true)) (An (An (zr (OB.vec 3 1 (thTo (lostB t b) x0).length fun (i:Nat)=>[iv ((thTo (lostB t b) x0).getD i 0)])) (zr true)) (An (An (zr (OB.vec 3 1 (thTo (staleB t b) x0).length fun (i:Nat)=>[iv ((thTo (staleB t b) x0).getD i 0)])) (zr true)) (An (An (zr (OB.cells 3 [iv (x0:Int)])) (zr true)) (An (An (zr (OB.cells 3 [iv (↑(lfN t b x0 (x9 + 1)):Int)])) (zr true)) (An (An (zr (OB.cells 3 [iv (↑(frN t b x0 (x9 + 1)):Int)])) (zr true)) tv)))))) (An (zr true) (zr true))))) (o30 hpre x0 hx0 y1 y2 x9 hx9 y10 y44) (o31 hpre x0 hx0 y1 y2 x9 hx9 y10 y44)
    ·refine swp_exit ?_
     exact zm (zEn 10264 hE [] [(0,.same 0),(5000,.same 5000),(5001,.same 5001),(10088,.same 10088),(10208,.same 10208),(10216,.same 10216)] [] [0,5000,5001,10088] (Ak 1 (An (An (An (zr (OB.cells 91 [AV.rp (cKn t)])) (zr true)) (An (An (zr (OB.vec 3 1 (thTo (lostB t b) x0).length fun (i:Nat)=>[iv ((thTo (lostB t b) x0).getD i 0)])) (zr true)) (An (An (zr (OB.vec 3 1 (thTo (staleB t b) x0).length fun (i:Nat)=>[iv ((thTo (staleB t b) x0).getD i 0)])) (zr true)) (An (An (zr (OB.cells 3 [iv (x0:Int)])) (zr true)) (An (An (zr 3) (An (An (An (ci (o32 hpre x0 hx0 y1 y2 x9 hx9 y10)) (zr nilN)) tv) (zr true))) (An (An (zr 3) (An (An (An (ci (o33 hpre x0 hx0 y1 y2 x9 hx9 y10)) (zr nilN)) tv) (zr true))) tv)))))) (An (zr true) (zr true)))))
   ·obtain ⟨P,w0,E0,av,hA,ro,df⟩:=C
    subst hC
    refine swp_seq ?_
    refine zR [36,2,6,9,10,11] [0,10088,10208,10216] (Ak 1 tv) ?_
    refine zR [2,6,9,10,11,12] [0,10088,10208,10216,30008] (Ak 2 tv) ?_
    intro C hC hE
    obtain ⟨P,w0,E0,av,hA,ro,df⟩:=C
    subst hC
    refine swp_block ?_
    refine swp_seq ?_
    refine swp_seq ?_
    refine zR [2,9,10,11,40] [0,10088,10208,10216] (Ak 4 tv) ?_
    refine zI (!decide ((↑(pgN (Twn.house t) j8):Int)=(x0:Int))) (fun y45 => ?_) (fun y45 => ?_)
    ·refine swp_exit ?_
     exact zN 1030000 (zEn 30000 hE [] [(0,.same 0),(10088,.same 10088),(10208,.same 10208),(10216,.same 10216)] [] [0,10088] (Ak 1 (An (An (An (zr (OB.cells 91 [AV.rp (cKn t)])) (zr true)) (An (An (zr (OB.cells 3 [iv (x0:Int)])) (zr true)) (An (An (zr 3) (An (An (An (ci (o34 hpre x0 hx0 y1 y2 j8 hj8 hp8 y45)) (zr nilN)) tv) (zr true))) (An (An (zr 3) (An (An (An (ci (o35 hpre x0 hx0 y1 y2 j8 hj8 hp8 y45)) (zr nilN)) tv) (zr true))) tv)))) (An (zr true) (zr true)))))
    ·refine swp_skip ?_
     refine swp_seq ?_
     refine zR [2,10,11] [0,10088,10208,10216] (Ak 1 (An (o36 hpre x0 hx0 y1 y2 j8 hj8 hp8 y45) (Ak 1 tv))) ?_
     refine swp_seq ?_
     refine zC ([(2,CallSpec.eq (s49 t j8) [true,true])]) [10,45] [0,10088,10208,10216] (Ak 2 (An (An (An (zr (AV.rp (cKn t))) (An (zr (iv (j8:Int))) tv)) (An (t49 (t) (j8)) (An (An hpre.1 hj8.1) (Ak 1 (fun (i46:Env)=>tv))))) tv)) ?_
     refine zI (freshT t j8) (fun y47 => ?_) (fun y47 => ?_)
     ·refine zR [] [0,10088,10208,10216] (Ak 1 (An (o37 hpre x0 hx0 y1 y2 j8 hj8 hp8 y45 y47) (Ak 1 tv))) ?_
      exact zN 1030000 (zEn 30000 hE [] [(0,.same 0),(10088,.same 10088),(10208,.same 10208),(10216,.same 10216)] [] [0,10088] (Ak 1 (An (An (An (zr (OB.cells 91 [AV.rp (cKn t)])) (zr true)) (An (An (zr (OB.cells 3 [iv (x0:Int)])) (zr true)) (An (An (zr 3) (An (An (An (ci (o38 hpre x0 hx0 y1 y2 j8 hj8 hp8 y45 y47)) (zr nilN)) tv) (zr true))) (An (An (zr 3) (An (An (An (ci (o39 hpre x0 hx0 y1 y2 j8 hj8 hp8 y45 y47)) (zr nilN)) tv) (zr true))) tv)))) (An (zr true) (zr true)))))
     ·refine swp_skip ?_
      exact zN 1030000 (zEn 30000 hE [] [(0,.same 0),(10088,.same 10088),(10208,.same 10208),(10216,.same 10216)] [] [0,10088] (Ak 1 (An (An (An (zr (OB.cells 91 [AV.rp (cKn t)])) (zr true)) (An (An (zr (OB.cells 3 [iv (x0:Int)])) (zr true)) (An (An (zr 3) (An (An (An (ci (o40 hpre x0 hx0 y1 y2 j8 hj8 hp8 y45 y47)) (zr nilN)) tv) (zr true))) (An (An (zr 3) (An (An (An (ci (o41 hpre x0 hx0 y1 y2 j8 hj8 hp8 y45 y47)) (zr nilN)) tv) (zr true))) tv)))) (An (zr true) (zr true)))))
   ·refine swp_block ?_
    refine swp_seq ?_
    refine zR [1,2,17,18,4,5,6,10,48] [0,5000,5001,10088,10216] (Ak 3 tv) ?_
    refine zI (decide ((↑(lfT t b x0):Int)=0)) (fun y48 => ?_) (fun y48 => ?_)
    ·refine zR [1,2,17,18,4,5] [0,2010312,5001] (Ak 3 (An (o42 hpre x0 hx0 y1 y2 y48) (Ak 1 tv))) ?_
     refine zR [1,2,17,18,4,5] [0,2010312,5001] (An (o43 hpre x0 hx0 y1 y2 y48) (Ak 1 tv)) ?_
     exact zn (zE hE [] [(0,.same 0),(5000,.same 2010312),(5001,.same 5001)] [1,17] [0] (An (An (An (zr (iv b)) (zr true)) (An (An (zr (some (Src.same 0))) (zr nilP)) (An (An (zr (iv (↑((Hs.things (Twn.house t)).length):Int))) (zr true)) (An (An (ci (o44 hpre x0 hx0 y1 y2 y48)) (zr nilN)) (An (zr (some (Src.same 2010312))) (An (zr (some (Src.same 5001))) tv)))))) (An (An (An (zr (OB.cells 91 [AV.rp (cKn t)])) (zr true)) (An (An (zr 3) (An (zr 1) (An (o45 hpre x0 hx0 y1 y2 y48) (fun (i49:Nat)=>(fun (y50:i49 < (thTo (lostB t b) x0).length + 1)=>(o46 hpre x0 hx0 y1 y2 y48 i49 y50)))))) (An (An (zr 3) (An (zr 1) (An (o47 hpre x0 hx0 y1 y2 y48) (fun (i51:Nat)=>(fun (y52:i51 < (thTo (staleB t b) x0).length)=>(o48 hpre x0 hx0 y1 y2 y48 i51 y52)))))) tv))) (An (zr true) (zr true))))) (o49 hpre x0 hx0 y1 y2 y48) (o50 hpre x0 hx0 y1 y2 y48)
    ·refine swp_seq ?_
     refine zR [1,2,17,18,4,5,6,55] [0,5000,5001,10088] (Ak 3 tv) ?_
     refine zI (decide ((↑(frT t b x0):Int)=0)) (fun y53 => ?_) (fun y53 => ?_)
     ·refine zR [1,2,17,18,4,5] [0,5000,2010336] (Ak 3 (An (o51 hpre x0 hx0 y1 y2 y48 y53) (Ak 1 tv))) ?_
      refine zR [1,2,17,18,4,5] [0,5000,2010336] (An (o52 hpre x0 hx0 y1 y2 y48 y53) (Ak 1 tv)) ?_
      exact zn (zE hE [] [(0,.same 0),(5000,.same 5000),(5001,.same 2010336)] [1,17] [0] (An (An (An (zr (iv b)) (zr true)) (An (An (zr (some (Src.same 0))) (zr nilP)) (An (An (zr (iv (↑((Hs.things (Twn.house t)).length):Int))) (zr true)) (An (An (ci (o53 hpre x0 hx0 y1 y2 y48 y53)) (zr nilN)) (An (zr (some (Src.same 5000))) (An (zr (some (Src.same 2010336))) tv)))))) (An (An (An (zr (OB.cells 91 [AV.rp (cKn t)])) (zr true)) (An (An (zr 3) (An (zr 1) (An (o54 hpre x0 hx0 y1 y2 y48 y53) (fun (i54:Nat)=>(fun (y55:i54 < (thTo (lostB t b) x0).length)=>(o55 hpre x0 hx0 y1 y2 y48 y53 i54 y55)))))) (An (An (zr 3) (An (zr 1) (An (o56 hpre x0 hx0 y1 y2 y48 y53) (fun (i56:Nat)=>(fun (y57:i56 < (thTo (staleB t b) x0).length + 1)=>(o57 hpre x0 hx0 y1 y2 y48 y53 i56 y57)))))) tv))) (An (zr true) (zr true))))) (o58 hpre x0 hx0 y1 y2 y48 y53) (o59 hpre x0 hx0 y1 y2 y48 y53)
     ·refine swp_skip ?_
      refine zR [1,2,17,18,4,5] [0,5000,5001] (An (o60 hpre x0 hx0 y1 y2 y48 y53) (Ak 1 tv)) ?_
      exact zn (zE hE [] [(0,.same 0),(5000,.same 5000),(5001,.same 5001)] [1,17] [0] (An (An (An (zr (iv b)) (zr true)) (An (An (zr (some (Src.same 0))) (zr nilP)) (An (An (zr (iv (↑((Hs.things (Twn.house t)).length):Int))) (zr true)) (An (An (ci (o61 hpre x0 hx0 y1 y2 y48 y53)) (zr nilN)) (An (zr (some (Src.same 5000))) (An (zr (some (Src.same 5001))) tv)))))) (An (An (An (zr (OB.cells 91 [AV.rp (cKn t)])) (zr true)) (An (An (zr 3) (An (zr 1) (An (o62 hpre x0 hx0 y1 y2 y48 y53) (fun (i58:Nat)=>(fun (y59:i58 < (thTo (lostB t b) x0).length)=>(o63 hpre x0 hx0 y1 y2 y48 y53 i58 y59)))))) (An (An (zr 3) (An (zr 1) (An (o64 hpre x0 hx0 y1 y2 y48 y53) (fun (i60:Nat)=>(fun (y61:i60 < (thTo (staleB t b) x0).length)=>(o65 hpre x0 hx0 y1 y2 y48 y53 i60 y61)))))) tv))) (An (zr true) (zr true))))) (o66 hpre x0 hx0 y1 y2 y48 y53) (o67 hpre x0 hx0 y1 y2 y48 y53)
 ·refine swp_exit ?_
  refine swp_seq ?_
  refine zR [4,5] [5000,5001] (Ak 4 tv) ?_
  refine swp_ret ?_
  exact zT [5000,5001] (An (Ak 2 tv) (An (An (An (zr 1) (An (o68 hpre x0 hx0 y1) (fun (i62:Nat)=>(fun (y63:i62 < (lostL t b).length)=>(o69 hpre x0 hx0 y1 i62 y63))))) (An (An (zr 1) (An (o70 hpre x0 hx0 y1) (fun (i64:Nat)=>(fun (y65:i64 < (staleL t b).length)=>(o71 hpre x0 hx0 y1 i64 y65))))) tv)) (An (zr true) (An (zr true) (zr true)))))
theorem lost_np {t:Twn} {b:Int} {x:Nat} (h:(!decide ((x:Int) ∈ mkeys (pagesT t)))=true):lostB t b x=false:=by
 have h2:isPg t x=false:=by rw [Bool.not_eq_true'] at h; exact h
 rw [lostB,h2]; rfl
theorem stale_np {t:Twn} {b:Int} {x:Nat} (h:(!decide ((x:Int) ∈ mkeys (pagesT t)))=true):staleB t b x=false:=by
 have h2:isPg t x=false:=by rw [Bool.not_eq_true'] at h; exact h
 rw [staleB,h2]; rfl
theorem cast0 {n:Nat}:decide ((n:Int)=0)=decide (n=0):=decide_eq_decide.2 (by omega)
theorem lost_t {t:Twn} {b:Int} {x:Nat} (h:(!decide ((x:Int) ∈ mkeys (pagesT t)))=false) (h0:decide ((lfT t b x:Int)=0)=true):lostB t b x=true:=by
 have h2:isPg t x=true:=by rw [Bool.not_eq_false'] at h; exact h
 rw [lostB,h2,← cast0,h0]; rfl
theorem lost_f {t:Twn} {b:Int} {x:Nat} (h0:decide ((lfT t b x:Int)=0)=false):lostB t b x=false:=by
 rw [lostB,← cast0,h0,Bool.and_false]
theorem stale_l {t:Twn} {b:Int} {x:Nat} (h0:decide ((lfT t b x:Int)=0)=true):staleB t b x=false:=by
 rw [staleB,← cast0,h0]; cases isPg t x <;> rfl
theorem stale_t {t:Twn} {b:Int} {x:Nat} (h:(!decide ((x:Int) ∈ mkeys (pagesT t)))=false) (h0:decide ((lfT t b x:Int)=0)=false) (h1:decide ((frT t b x:Int)=0)=true):staleB t b x=true:=by
 have h2:isPg t x=true:=by rw [Bool.not_eq_false'] at h; exact h
 rw [staleB,h2,← cast0,← cast0,h0,h1]; rfl
theorem stale_f {t:Twn} {b:Int} {x:Nat} (h1:decide ((frT t b x:Int)=0)=false):staleB t b x=false:=by
 rw [staleB,← cast0 (n:=frT t b x),h1,Bool.and_false]
theorem left_b {t:Twn} {b:Int} {x:Nat} (h:(bif decide (thrN t x=1) then !decide (t.places.getD x 0=b) else false)=true):leftP t b x=true:=by
 rw [Bool.cond_false_right] at h; exact h
theorem left_f {t:Twn} {b:Int} {x:Nat} (h:(bif decide (thrN t x=1) then !decide (t.places.getD x 0=b) else false)=false):leftP t b x=false:=by
 rw [Bool.cond_false_right] at h; exact h
theorem lf_no {t:Twn} {b:Int} {p x:Nat} (h:(bif decide (thrN t x=1) then !decide (t.places.getD x 0=b) else false)=false):lfN t b p (x + 1)=lfN t b p x:=by rw [lfN,left_f h]; rfl
theorem fr_no {t:Twn} {b:Int} {p x:Nat} (h:(bif decide (thrN t x=1) then !decide (t.places.getD x 0=b) else false)=false):frN t b p (x + 1)=frN t b p x:=by rw [frN,left_f h]; rfl
theorem lf_off {t:Twn} {b:Int} {p x:Nat} (h:(!decide ((pgN t.house x:Int)=(p:Int)))=true):lfN t b p (x + 1)=lfN t b p x:=by
 have h2:onP t p x=false:=by rw [Bool.not_eq_true'] at h; exact h
 rw [lfN,h2,Bool.and_false]; rfl
theorem fr_off {t:Twn} {b:Int} {p x:Nat} (h:(!decide ((pgN t.house x:Int)=(p:Int)))=true):frN t b p (x + 1)=frN t b p x:=by
 have h2:onP t p x=false:=by rw [Bool.not_eq_true'] at h; exact h
 rw [frN,h2,Bool.and_false]; rfl
theorem lf_on {t:Twn} {b:Int} {p x:Nat} (hl:leftP t b x=true) (h:(!decide ((pgN t.house x:Int)=(p:Int)))=false):lfN t b p (x + 1)=lfN t b p x + 1:=by
 have h2:onP t p x=true:=by rw [Bool.not_eq_false'] at h; exact h
 rw [lfN,h2,hl]; rfl
theorem fr_on {t:Twn} {b:Int} {p x:Nat} (hl:leftP t b x=true) (h:(!decide ((pgN t.house x:Int)=(p:Int)))=false) (hf:freshT t x=true):frN t b p (x + 1)=frN t b p x + 1:=by
 have h2:onP t p x=true:=by rw [Bool.not_eq_false'] at h; exact h
 rw [frN,h2,hl,hf]; rfl
theorem fr_stale {t:Twn} {b:Int} {p x:Nat} (hf:freshT t x=false):frN t b p (x + 1)=frN t b p x:=by rw [frN,hf,Bool.and_false]; rfl
theorem lfN_le (t:Twn) (b:Int) (p:Nat):∀ n,lfN t b p n<=n:=by
 intro n
 induction n with
 | zero=>exact Nat.le_refl _
 | succ n ih=>rw [lfN]; split <;> omega
theorem frN_le (t:Twn) (b:Int) (p:Nat):∀ n,frN t b p n<=n:=by
 intro n
 induction n with
 | zero=>exact Nat.le_refl _
 | succ n ih=>rw [frN]; split <;> omega
theorem t51 (t:Twn) (b:Int):Triple Try.prog 51 (s51 t b):=by
 apply w51
 all_goals (try delta q3m q3n q3o q3p q3q q3r q3s q3t q3u q3v q3w q3x q3y q3z q40 q41)
 all_goals (intro hp; obtain ⟨hH,hpl⟩:=hp; obtain ⟨l1,l2,hT,hM⟩:=okH_iff.1 hH)
 case o0=>rfl
 case o1=>rfl
 case o2=>rfl
 case o3=>omega
 all_goals (intro x hx hl; simp only [decide_eq_true_eq,decide_eq_false_iff_not] at hl)
 case o68 | o69 | o70 | o71 =>
  have e:x=t.house.things.length:=by omega
  subst e
  first | rfl | (intro i _; rfl)
 case o4=>constructor <;> omega
 all_goals (intro hpg; have h6:=thTo_len (lostB t b) x; have h7:=thTo_len (staleB t b) x)
 case o5=>constructor <;> omega
 case o6 | o11 | o12=>omega
 case o7=>rw [thTo_f (lost_np hpg)]
 case o8=>intro i _; rw [thTo_f (lost_np hpg)]
 case o9=>rw [thTo_f (stale_np hpg)]
 case o10=>intro i _; rw [thTo_f (stale_np hpg)]
 case o13=>rfl
 case o14=>rfl
 case o15=>rfl
 case o16=>omega
 case o34 | o35 =>
  all_goals (intro j hj _ h; first | rw [lf_off h] | rw [fr_off h])
 case o36 | o37 | o38 | o39 | o40 | o41 =>
  all_goals (intro j hj _ h; have h1:=lfN_le t b x j; have h2:=frN_le t b x j; have hj1:=hj.1)
  all_goals first
   | (intro hf; rw [lf_on hj.2 h]; rfl)
   | (intro hf; rw [fr_on hj.2 h hf]; rfl)
   | (intro hf; rw [fr_stale hf])
   | (intros; constructor <;> omega)
 case o42 | o51=>intros; omega
 case o43 | o52 | o60=>intros; constructor <;> omega
 case o44 | o49 | o50 | o53 | o58 | o59 | o61 | o66 | o67=>intros; omega
 case o45=>intro hl0; rw [thTo_t (lost_t hpg hl0),List.length_append]; rfl
 case o46=>intro hl0 i hi; rw [thTo_t (lost_t hpg hl0)]; exact catF_one _ _ 0 (fun z=>[iv z]) rfl (fun _ _=>rfl) rfl hi
 case o47=>intro hl0; rw [thTo_f (stale_l hl0)]
 case o48=>intro hl0 i _; rw [thTo_f (stale_l hl0)]
 case o54=>intro hl0 _; rw [thTo_f (lost_f hl0)]
 case o55=>intro hl0 _ i _; rw [thTo_f (lost_f hl0)]
 case o56=>intro hl0 hf0; rw [thTo_t (stale_t hpg hl0 hf0),List.length_append]; rfl
 case o57=>intro hl0 hf0 i hi; rw [thTo_t (stale_t hpg hl0 hf0)]; exact catF_one _ _ 0 (fun z=>[iv z]) rfl (fun _ _=>rfl) rfl hi
 case o62=>intro hl0 _; rw [thTo_f (lost_f hl0)]
 case o63=>intro hl0 _ i _; rw [thTo_f (lost_f hl0)]
 case o64=>intro _ hf0; rw [thTo_f (stale_f hf0)]
 case o65=>intro _ hf0 i _; rw [thTo_f (stale_f hf0)]
 all_goals (intro k hk hkl; simp only [decide_eq_true_eq,decide_eq_false_iff_not] at hkl)
 case o32 | o33 =>
  have e:k=t.house.things.length:=by omega
  subst e
  rfl
 case o17 | o18=>omega
 all_goals (intro h)
 case o21=>exact ⟨by omega,left_b h⟩
 case o22 | o24=>rw [lf_no h]
 case o23 | o25=>rw [fr_no h]
 case o26 | o27=>exact (bif_ff h).elim
 case o28=>constructor <;> omega
 all_goals omega
theorem w17 (t:Twn) (b:Int)
  (o0:p17 t b->fitsT t)
  (o1:p17 t b->okTwn t=true)
  (o2:p17 t b->isBld t b=true)
  (o3:p17 t b->okH (Twn.house t)=true)
  (o4:p17 t b->(Twn.places t).length=(Hs.things (Twn.house t)).length) :
  Triple Try.prog 17 (s17 t b):=by
 refine triple_of Try.func17 rfl Try.call17 T0_ok _ rfl rfl rfl rfl (Nat.le_of_ble_eq_true (by kernel_rfl)) (fun _ _ _ _ h=>h) ?_
 intro hpre C hC _ hE
 obtain ⟨P,w0,E0,av,hA,ro,df⟩:=C
 obtain ⟨rfl,rfl,rfl⟩:=hC
 refine swp_seq ?_
 refine zR [1,2] [0] (Ak 3 tv) ?_
 refine swp_seq ?_
 refine zC ([(3,CallSpec.eq (s50 t b) [true,true]),(4,CallSpec.eq (s47 t (isBld t b)) [true,true])]) [1,6,7] [] (Ak 3 (An (An (An (zr (AV.agg (cTwn t))) (An (zr (iv b)) tv)) (An (t50 (t) (b)) (An (o0 hpre) (Ak 1 (fun (i0:Env)=>tv))))) (An (An (An (zr (AV.agg (cTwn t))) (An (zr (bv (isBld t b))) tv)) (An (t47 (t) (isBld t b)) (An (An (o1 hpre) (o2 hpre)) (Ak 1 (fun (i1:Env)=>tv))))) (Ak 5 tv)))) ?_
 refine swp_seq ?_
 refine swp_seq ?_
 refine zR [1,6,7,19] [] (Ak 2 tv) ?_
 refine zf ?_
 refine swp_skip ?_
 refine swp_seq ?_
 refine zC ([(2,CallSpec.eq (s51 t b) [true,true])]) [8] [] (Ak 2 (An (An (An (zr (AV.rp (cKn t))) (An (zr (iv b)) tv)) (An (t51 (t) (b)) (An (An (o3 hpre) (o4 hpre)) (Ak 1 (fun (i2:Env)=>tv))))) (Ak 5 tv))) ?_
 refine swp_seq ?_
 refine zR [4,5] [] (Ak 3 tv) ?_
 refine swp_ret ?_
 exact zT [] (An (Ak 2 tv) (An (An (An (zr 1) (An (zr (lostL t b).length) (fun (i3:Nat)=>(fun (y4:i3 < (lostL t b).length)=>(zr ([iv ((lostL t b).getD i3 0)])))))) (An (An (zr (iv 0)) (zr nilN)) tv)) (An (zr true) (An (zr true) (zr true)))))
theorem t17 (t:Twn) (b:Int):Triple Try.prog 17 (s17 t b):=by
 apply w17
 all_goals (first | ((repeat intro _) <;> (try simp only [Bool.cond_true_left,Bool.cond_false_right,Bool.not_not,Bool.not_eq_true',Bool.not_eq_false',Bool.or_eq_true,Bool.or_eq_false_iff,Bool.and_eq_true,decide_eq_true_eq,decide_eq_false_iff_not,inI,big] at *) <;> first | (exact rfl) | omega | (exact ⟨Nat.zero_le _,fun j hj=>absurd hj (Nat.not_lt_zero j)⟩) | (simp_all; done) | (simp_all; omega)) | skip)
 all_goals (intro hp; obtain ⟨hok,hb⟩:=hp; obtain ⟨hH,hr,hpl,hca,hmi,hP,hR,hro⟩:=okTwn_iff.1 hok)
 case o0=>exact fitsT_ok hok
 case o2=>exact Go.Sh.within_iff.2 (by omega)
 all_goals assumption
theorem w18 (t:Twn) (b:Int)
  (o0:p17 t b->fitsT t)
  (o1:p17 t b->okTwn t=true)
  (o2:p17 t b->isBld t b=true)
  (o3:p17 t b->okH (Twn.house t)=true)
  (o4:p17 t b->(Twn.places t).length=(Hs.things (Twn.house t)).length) :
  Triple Try.prog 18 (s18 t b):=by
 refine triple_of Try.func18 rfl Try.call18 T0_ok _ rfl rfl rfl rfl (Nat.le_of_ble_eq_true (by kernel_rfl)) (fun _ _ _ _ h=>h) ?_
 intro hpre C hC _ hE
 obtain ⟨P,w0,E0,av,hA,ro,df⟩:=C
 obtain ⟨rfl,rfl,rfl⟩:=hC
 refine swp_seq ?_
 refine zR [1,2] [0] (Ak 3 tv) ?_
 refine swp_seq ?_
 refine zC ([(3,CallSpec.eq (s50 t b) [true,true]),(4,CallSpec.eq (s47 t (isBld t b)) [true,true])]) [1,6,7] [] (Ak 3 (An (An (An (zr (AV.agg (cTwn t))) (An (zr (iv b)) tv)) (An (t50 (t) (b)) (An (o0 hpre) (Ak 1 (fun (i0:Env)=>tv))))) (An (An (An (zr (AV.agg (cTwn t))) (An (zr (bv (isBld t b))) tv)) (An (t47 (t) (isBld t b)) (An (An (o1 hpre) (o2 hpre)) (Ak 1 (fun (i1:Env)=>tv))))) (Ak 5 tv)))) ?_
 refine swp_seq ?_
 refine swp_seq ?_
 refine zR [1,6,7,19] [] (Ak 2 tv) ?_
 refine zf ?_
 refine swp_skip ?_
 refine swp_seq ?_
 refine zC ([(2,CallSpec.eq (s51 t b) [true,true])]) [9] [] (Ak 2 (An (An (An (zr (AV.rp (cKn t))) (An (zr (iv b)) tv)) (An (t51 (t) (b)) (An (An (o3 hpre) (o4 hpre)) (Ak 1 (fun (i2:Env)=>tv))))) (Ak 5 tv))) ?_
 refine swp_seq ?_
 refine zR [4,5] [] (Ak 3 tv) ?_
 refine swp_ret ?_
 exact zT [] (An (Ak 2 tv) (An (An (An (zr 1) (An (zr (staleL t b).length) (fun (i3:Nat)=>(fun (y4:i3 < (staleL t b).length)=>(zr ([iv ((staleL t b).getD i3 0)])))))) (An (An (zr (iv 0)) (zr nilN)) tv)) (An (zr true) (An (zr true) (zr true)))))
theorem t18 (t:Twn) (b:Int):Triple Try.prog 18 (s18 t b):=by
 apply w18
 all_goals (first | ((repeat intro _) <;> (try simp only [Bool.cond_true_left,Bool.cond_false_right,Bool.not_not,Bool.not_eq_true',Bool.not_eq_false',Bool.or_eq_true,Bool.or_eq_false_iff,Bool.and_eq_true,decide_eq_true_eq,decide_eq_false_iff_not,inI,big] at *) <;> first | (exact rfl) | omega | (exact ⟨Nat.zero_le _,fun j hj=>absurd hj (Nat.not_lt_zero j)⟩) | (simp_all; done) | (simp_all; omega)) | skip)
 all_goals (intro hp; obtain ⟨hok,hb⟩:=hp; obtain ⟨hH,hr,hpl,hca,hmi,hP,hR,hro⟩:=okTwn_iff.1 hok)
 case o0=>exact fitsT_ok hok
 case o2=>exact Go.Sh.within_iff.2 (by omega)
 all_goals assumption
abbrev q42 (t:Twn) (Pq:Prop):Prop:=okTwn t=true->Pq
abbrev q43 (t:Twn) (x1:Nat) (Pq:Prop):Prop:=x1<=(Twn.rooms t).length->Pq
abbrev q44 (t:Twn) (x1:Nat) (Pq:Prop):Prop:=q43 t x1 (decide ((x1:Int) < (↑((Twn.rooms t).length):Int))=true->Pq)
abbrev q45 (t:Twn) (x1:Nat) (Pq:Prop):Prop:=q44 t x1 ((bif decide ((wstT t x1).2.1 < (↑((lostL t (x1:Int)).length):Int)) then true else bif decide ((↑((lostL t (x1:Int)).length):Int)=(wstT t x1).2.1) then decide ((wstT t x1).2.2 < (↑((staleL t (x1:Int)).length):Int)) else false)=true->Pq)
abbrev q46 (t:Twn) (x1:Nat) (Pq:Prop):Prop:=q44 t x1 ((bif decide ((wstT t x1).2.1 < (↑((lostL t (x1:Int)).length):Int)) then true else bif decide ((↑((lostL t (x1:Int)).length):Int)=(wstT t x1).2.1) then decide ((wstT t x1).2.2 < (↑((staleL t (x1:Int)).length):Int)) else false)=false->Pq)
theorem w40 (t:Twn)
 (o0:q42 t (0=(↑0:Int)))
 (o1:q42 t (0=Prod.fst (wstT t 0)))
 (o2:q42 t (∀ (i2:Nat),i2 < 2 -> [match (List.set (List.map (fun (j:Nat)=>List.headD [iv 0] AV.any) (List.range 2)) 0 (iv (-1)))[i2]? with | some x=>x | none=>AV.any] = [match [iv (wstT t 0).2.1,iv (wstT t 0).2.2][i2]? with | some x=>x | none=>AV.any]))
 (o3:q42 t (0<=List.length (Twn.rooms t)))
 (o4:q42 t (∀ (x1:Nat),q44 t x1 (okH (Twn.house t)=true)))
 (o5:q42 t (∀ (x1:Nat),q44 t x1 ((Twn.places t).length=(Hs.things (Twn.house t)).length)))
 (o6:q42 t (∀ (x1:Nat),q44 t x1 ((!decide ((wstT t x1).2.1 < (↑((lostL t (x1:Int)).length):Int)))=true->decide ((↑((lostL t (x1:Int)).length):Int)=(wstT t x1).2.1)=true->(!decide ((wstT t x1).2.1 < (↑((lostL t (x1:Int)).length):Int)) && decide ((↑((lostL t (x1:Int)).length):Int)=(wstT t x1).2.1))=true)))
 (o7:q42 t (∀ (x1:Nat),q44 t x1 (decide ((wstT t x1).2.1 < (↑((lostL t (x1:Int)).length):Int))=false->(!decide ((wstT t x1).2.1 < (↑((lostL t (x1:Int)).length):Int)))=true)))
 (o8:q42 t (∀ (x1:Nat),q45 t x1 (inI ((x1:Int) + 1))))
 (o9:q42 t (∀ (x1:Nat),q45 t x1 ((x1:Int) + 1=(↑(x1 + 1):Int))))
 (o10:q42 t (∀ (x1:Nat),q45 t x1 ((x1:Int)=(wstT t (x1 + 1)).1)))
 (o11:q42 t (∀ (x1:Nat),q45 t x1 (∀ (i33:Nat),i33 < 2 -> [match (List.set (List.set (List.map (fun (j:Nat)=>List.headD [iv 0] AV.any) (List.range 2)) 0 (iv (↑((lostL t (x1:Int)).length):Int))) 1 (iv (↑((staleL t (x1:Int)).length):Int)))[i33]? with | some x=>x | none=>AV.any] = [match [iv (wstT t (x1 + 1)).2.1,iv (wstT t (x1 + 1)).2.2][i33]? with | some x=>x | none=>AV.any])))
 (o12:q42 t (∀ (x1:Nat),q45 t x1 (x1 + 1<=(Twn.rooms t).length)))
 (o13:q42 t (∀ (x1:Nat),q45 t x1 ((Twn.rooms t).length - (x1 + 1) < (Twn.rooms t).length - x1)))
 (o14:q42 t (∀ (x1:Nat),q46 t x1 (inI ((x1:Int) + 1))))
 (o15:q42 t (∀ (x1:Nat),q46 t x1 ((x1:Int) + 1=(↑(x1 + 1):Int))))
 (o16:q42 t (∀ (x1:Nat),q46 t x1 ((wstT t x1).1=(wstT t (x1 + 1)).1)))
 (o17:q42 t (∀ (x1:Nat),q46 t x1 (∀ (i35:Nat),i35 < 2 -> [match [iv (wstT t x1).2.1,iv (wstT t x1).2.2][i35]? with | some x=>x | none=>AV.any] = [match [iv (wstT t (x1 + 1)).2.1,iv (wstT t (x1 + 1)).2.2][i35]? with | some x=>x | none=>AV.any])))
 (o18:q42 t (∀ (x1:Nat),q46 t x1 (x1 + 1<=(Twn.rooms t).length)))
 (o19:q42 t (∀ (x1:Nat),q46 t x1 ((Twn.rooms t).length - (x1 + 1) < (Twn.rooms t).length - x1)))
 (o20:q42 t (∀ (x1:Nat),q43 t x1 (decide ((x1:Int) < (↑((Twn.rooms t).length):Int))=false->(wstT t x1).1=(wstT t (Twn.rooms t).length).1))) :
  Triple Try.prog 40 (s40 t):=by
 refine triple_of Try.func40 rfl Try.call40 T0_ok _ rfl rfl rfl rfl (Nat.le_of_ble_eq_true (by kernel_rfl)) (fun _ _ _ _ h=>h) ?_
 intro hpre C hC _ hE
 obtain ⟨P,w0,E0,av,hA,ro,df⟩:=C
 obtain ⟨rfl,rfl,rfl⟩:=hC
 refine swp_seq ?_
 refine zR [1] [0] (Ak 3 tv) ?_
 refine swp_seq ?_
 refine zC ([(1,CallSpec.eq (s47 t true) [true,true])]) [1,4,5] [0] (Ak 1 (An (An (An (zr (AV.agg (cTwn t))) (An (zr (bv true)) tv)) (An (t47 (t) (true)) (An (An hpre (zr true)) (Ak 1 (fun (i0:Env)=>tv))))) (Ak 5 tv))) ?_
 refine swp_seq ?_
 refine swp_seq ?_
 refine zR [1,4,5,18] [0] (Ak 2 tv) ?_
 refine zf ?_
 refine swp_skip ?_
 refine swp_seq ?_
 refine zR [1,4,7,6] [0,104] (Ak 4 tv) ?_
 refine swp_seq ?_
 refine swp_seq ?_
 refine zR [4,7,6,23,24] [104] (Ak 4 tv) ?_
 refine swp_block ?_
 refine zL (Hint.ann (h40 t) [(4,AV.rp (cKn t)),(23,iv (↑((Twn.rooms t).length):Int))] [] 10160) (zE hE [] [(5000,.same 104)] [4,23] [] (An (An (An (zr (AV.rp (cKn t))) (zr true)) (An (An (zr (iv (↑((Twn.rooms t).length):Int))) (zr true)) (An (An (ci (o0 hpre)) (zr nilN)) (An (An (ci (o1 hpre)) (zr nilN)) (An (An (zr (some (Src.same 104))) (zr nilP)) tv))))) (An (An (An (zr 132) (An (An (An (zr 1) (An (zr 2) (fun (i2:Nat)=>(fun (y3:i2 < 2)=>(o2 hpre i2 y3))))) tv) (zr true))) tv) (An (zr true) (zr true))))) (o3 hpre) (fun (x1:Nat) hx1 => ?_)
 refine swp_seq ?_
 refine zR [4,23,24,6,7,25] [5000] (Ak 1 tv) ?_
 refine swp_seq ?_
 refine zI (decide ((x1:Int) < (↑((Twn.rooms t).length):Int))) (fun y4 => ?_) (fun y4 => ?_)
 ·refine swp_skip ?_
  refine swp_seq ?_
  refine swp_block ?_
  refine swp_seq ?_
  refine zR [4,23,24,6,7,8] [5000] (Ak 2 tv) ?_
  refine swp_seq ?_
  refine zC ([(2,CallSpec.eq (s51 t (x1:Int)) [true,true])]) [4,23,24,6,7,8,9,10] [5000] (Ak 2 (An (An (An (zr (AV.rp (cKn t))) (An (zr (iv (x1:Int))) tv)) (An (t51 (t) ((x1:Int))) (An (An (o4 hpre x1 hx1 y4) (o5 hpre x1 hx1 y4)) (Ak 1 (fun (i5:Env)=>tv))))) (Ak 5 tv))) ?_
  refine swp_seq ?_
  refine zR [4,23,24,6,7,8,11] [5000,10288] (Ak 7 tv) ?_
  refine swp_seq ?_
  refine zR [4,23,24,6,7,8,11,56] [5000,10288] (An (An (by decide:Int.ofNat 0<=Int.ofNat 0) (by decide:0 < (↑2:Int))) (An (An (by decide:0 < 2) tv) (An (An (by decide:Int.ofNat 0<=Int.ofNat 0) (by decide:0 < (↑2:Int))) (An (An (by decide:0 < 2) tv) (Ak 2 (An (fun (y6:(!decide ((wstT t x1).2.1 < (↑((lostL t (x1:Int)).length):Int)))=true)=>(An (Ak 2 tv) (An (by decide:Int.ofNat 0<=Int.ofNat 0) (by decide:0 < (↑2:Int))))) (An (fun (y7:(!decide ((wstT t x1).2.1 < (↑((lostL t (x1:Int)).length):Int)))=true)=>(An (An (fun (y8:(!decide ((wstT t x1).2.1 < (↑((lostL t (x1:Int)).length):Int)))=true)=>y7) tv) (An (by decide:0 < 2) tv))) (An (fun (y9:(!decide ((wstT t x1).2.1 < (↑((lostL t (x1:Int)).length):Int)))=true)=>(An (Ak 2 tv) (An (by decide:Int.ofNat 0<=Int.ofNat 0) (by decide:0 < (↑2:Int))))) (An (fun (y10:(!decide ((wstT t x1).2.1 < (↑((lostL t (x1:Int)).length):Int)))=true)=>(An (An (fun (y11:(!decide ((wstT t x1).2.1 < (↑((lostL t (x1:Int)).length):Int)))=true)=>y10) tv) (An (by decide:0 < 2) tv))) (An (fun (y12:(!decide ((wstT t x1).2.1 < (↑((lostL t (x1:Int)).length):Int)))=true)=>(An (An (fun (y13:(!decide ((wstT t x1).2.1 < (↑((lostL t (x1:Int)).length):Int)))=true)=>y12) (An (fun (y14:(!decide ((wstT t x1).2.1 < (↑((lostL t (x1:Int)).length):Int)))=true)=>y12) tv)) tv)) (An (fun (y15:(!decide ((wstT t x1).2.1 < (↑((lostL t (x1:Int)).length):Int)))=true)=>(An (An (fun (y16:(!decide ((wstT t x1).2.1 < (↑((lostL t (x1:Int)).length):Int)))=true)=>y15) tv) tv)) (An (fun (y17:(!decide ((wstT t x1).2.1 < (↑((lostL t (x1:Int)).length):Int)) && decide ((↑((lostL t (x1:Int)).length):Int)=(wstT t x1).2.1))=true)=>(An (Ak 2 tv) (An (by decide:Int.ofNat 0<=Int.ofNat 1) (by decide:1 < (↑2:Int))))) (An (fun (y18:(!decide ((wstT t x1).2.1 < (↑((lostL t (x1:Int)).length):Int)) && decide ((↑((lostL t (x1:Int)).length):Int)=(wstT t x1).2.1))=true)=>(An (An (fun (y19:(!decide ((wstT t x1).2.1 < (↑((lostL t (x1:Int)).length):Int)) && decide ((↑((lostL t (x1:Int)).length):Int)=(wstT t x1).2.1))=true)=>y18) tv) (An (by decide:1 < 2) tv))) (An (fun (y20:(!decide ((wstT t x1).2.1 < (↑((lostL t (x1:Int)).length):Int)) && decide ((↑((lostL t (x1:Int)).length):Int)=(wstT t x1).2.1))=true)=>(An (Ak 2 tv) (An (by decide:Int.ofNat 0<=Int.ofNat 1) (by decide:1 < (↑2:Int))))) (An (fun (y21:(!decide ((wstT t x1).2.1 < (↑((lostL t (x1:Int)).length):Int)) && decide ((↑((lostL t (x1:Int)).length):Int)=(wstT t x1).2.1))=true)=>(An (An (fun (y22:(!decide ((wstT t x1).2.1 < (↑((lostL t (x1:Int)).length):Int)) && decide ((↑((lostL t (x1:Int)).length):Int)=(wstT t x1).2.1))=true)=>y21) tv) (An (by decide:1 < 2) tv))) (An (fun (y23:(!decide ((wstT t x1).2.1 < (↑((lostL t (x1:Int)).length):Int)) && decide ((↑((lostL t (x1:Int)).length):Int)=(wstT t x1).2.1))=true)=>(An (An (fun (y24:(!decide ((wstT t x1).2.1 < (↑((lostL t (x1:Int)).length):Int)) && decide ((↑((lostL t (x1:Int)).length):Int)=(wstT t x1).2.1))=true)=>y23) (An (fun (y25:(!decide ((wstT t x1).2.1 < (↑((lostL t (x1:Int)).length):Int)) && decide ((↑((lostL t (x1:Int)).length):Int)=(wstT t x1).2.1))=true)=>y23) tv)) tv)) (An (fun (y26:(!decide ((wstT t x1).2.1 < (↑((lostL t (x1:Int)).length):Int)))=true)=>(An (An (fun (y27:(!decide ((wstT t x1).2.1 < (↑((lostL t (x1:Int)).length):Int)))=true)=>y26) tv) (An (fun (y28:decide ((↑((lostL t (x1:Int)).length):Int)=(wstT t x1).2.1)=true)=>(o6 hpre x1 hx1 y4 y26 y28)) (fun (y29:decide ((↑((lostL t (x1:Int)).length):Int)=(wstT t x1).2.1)=false)=>tv)))) (An (An (fun (y30:decide ((wstT t x1).2.1 < (↑((lostL t (x1:Int)).length):Int))=true)=>tv) (fun (y31:decide ((wstT t x1).2.1 < (↑((lostL t (x1:Int)).length):Int))=false)=>(o7 hpre x1 hx1 y4 y31))) tv)))))))))))))))))) ?_
  refine zI (bif decide ((wstT t x1).2.1 < (↑((lostL t (x1:Int)).length):Int)) then true else bif decide ((↑((lostL t (x1:Int)).length):Int)=(wstT t x1).2.1) then decide ((wstT t x1).2.2 < (↑((staleL t (x1:Int)).length):Int)) else false) (fun y32 => ?_) (fun y32 => ?_)
  ·refine zR [4,23,24,6,7] [5000] (Ak 4 tv) ?_
   refine zR [4,23,24,6,7] [5000] (An (o8 hpre x1 hx1 y4 y32) (Ak 1 tv)) ?_
   exact zn (zE hE [] [(5000,.same 5000)] [4,23] [] (An (An (An (zr (AV.rp (cKn t))) (zr true)) (An (An (zr (iv (↑((Twn.rooms t).length):Int))) (zr true)) (An (An (ci (o9 hpre x1 hx1 y4 y32)) (zr nilN)) (An (An (ci (o10 hpre x1 hx1 y4 y32)) (zr nilN)) (An (An (zr (some (Src.same 5000))) (zr nilP)) tv))))) (An (An (An (zr 132) (An (An (An (zr 1) (An (zr 2) (fun (i33:Nat)=>(fun (y34:i33 < 2)=>(o11 hpre x1 hx1 y4 y32 i33 y34))))) tv) (zr true))) tv) (An (zr true) (zr true))))) (o12 hpre x1 hx1 y4 y32) (o13 hpre x1 hx1 y4 y32)
  ·refine swp_skip ?_
   refine zR [4,23,24,6,7] [5000] (An (o14 hpre x1 hx1 y4 y32) (Ak 1 tv)) ?_
   exact zn (zE hE [] [(5000,.same 5000)] [4,23] [] (An (An (An (zr (AV.rp (cKn t))) (zr true)) (An (An (zr (iv (↑((Twn.rooms t).length):Int))) (zr true)) (An (An (ci (o15 hpre x1 hx1 y4 y32)) (zr nilN)) (An (An (ci (o16 hpre x1 hx1 y4 y32)) (zr nilN)) (An (An (zr (some (Src.same 5000))) (zr nilP)) tv))))) (An (An (An (zr 132) (An (An (An (zr 1) (An (zr 2) (fun (i35:Nat)=>(fun (y36:i35 < 2)=>(o17 hpre x1 hx1 y4 y32 i35 y36))))) tv) (zr true))) tv) (An (zr true) (zr true))))) (o18 hpre x1 hx1 y4 y32) (o19 hpre x1 hx1 y4 y32)
 ·refine swp_exit ?_
  refine swp_seq ?_
  refine zR [2,3] [] (Ak 3 tv) ?_
  refine swp_ret ?_
  exact zT [] (An (Ak 2 tv) (An (An (An (ci (o20 hpre x1 hx1 y4)) (zr nilN)) (An (An (zr (iv 0)) (zr nilN)) tv)) (An (zr true) (An (zr true) (zr true)))))
theorem worse_eq2 (a b c:Bool):(bif a then true else bif b then c else false)=(a || (b && c)):=by cases a <;> cases b <;> rfl
theorem wst_t {t:Twn} {n:Nat} (h:(bif decide ((wstT t n).2.1 < ((lostL t (n:Int)).length:Int)) then true else bif decide (((lostL t (n:Int)).length:Int)=(wstT t n).2.1) then decide ((wstT t n).2.2 < ((staleL t (n:Int)).length:Int)) else false)=true):wstT t (n + 1)=((n:Int),((lostL t (n:Int)).length:Int),((staleL t (n:Int)).length:Int)):=by
 rw [worse_eq2] at h
 have h3:worseT t (wstT t n) (n:Int)=true:=h
 rw [wstT,if_pos h3]
theorem wst_f {t:Twn} {n:Nat} (h:(bif decide ((wstT t n).2.1 < ((lostL t (n:Int)).length:Int)) then true else bif decide (((lostL t (n:Int)).length:Int)=(wstT t n).2.1) then decide ((wstT t n).2.2 < ((staleL t (n:Int)).length:Int)) else false)=false):wstT t (n + 1)=wstT t n:=by
 rw [worse_eq2] at h
 rw [wstT,if_neg]
 intro h2
 have h3:worseT t (wstT t n) (n:Int)=false:=h
 rw [h3] at h2; cases h2
theorem t40 (t:Twn):Triple Try.prog 40 (s40 t):=by
  apply w40
  all_goals (try delta q42 q43 q44 q45 q46)
  all_goals (first | ((repeat intro _) <;> (try simp only [Bool.cond_true_left,Bool.cond_false_right,Bool.not_not,Bool.not_eq_true',Bool.not_eq_false',Bool.or_eq_true,Bool.or_eq_false_iff,Bool.and_eq_true,decide_eq_true_eq,decide_eq_false_iff_not,inI,big] at *) <;> first | (exact rfl) | omega | (exact ⟨Nat.zero_le _,fun j hj=>absurd hj (Nat.not_lt_zero j)⟩) | (simp_all; done) | (simp_all; omega)) | skip)
  all_goals (intro hok; obtain ⟨hH,hr,hpl,hca,hmi,hP,hR,hro⟩:=okTwn_iff.1 hok; intro x hx hl; simp only [decide_eq_true_eq,decide_eq_false_iff_not] at hl)
  case o4=>exact hH
  case o5=>exact hpl
  case o20 => have e : x = t.rooms.length := by omega
              rw [e]
  case o8 | o14=>intro _; constructor <;> omega
  case o10=>intro h; rw [wst_t h]
  case o11 =>
    intro h i hi
    rw [wst_t h]
    match i,hi with
    | 0,_=>rfl
    | 1,_=>rfl
  case o16=>intro h; rw [wst_f h]
  case o17=>intro h i _; rw [wst_f h]
end Go.Ab
namespace Go.Sh
open Go.Ab
def keepM (t:Twn) (c:Int) (m:Mrk):Bool:=decide (m.ch=c) && decide (m.at_<=t.minute)
def onlyH (t:Twn) (c:Int):Hs:=⟨t.house.things,t.house.marks.filter (keepM t c)⟩
def onlyT (t:Twn) (c:Int):Twn:=⟨onlyH t c,t.places,t.carry,t.rooms,t.minute⟩
def remT (t:Twn) (c:Int):List Int:=outL (leastR (onlyH t c) c t.minute)
def altT (t:Twn) (c:Int):Twn:=⟨altH (onlyH t c) c t.minute (remT t c),t.places,t.carry,t.rooms,t.minute⟩
theorem markStep_le (h:Hs) (c:Int) (i:Nat) (st:Int × Int) (n:Nat):(markStep h c i st n).1<=st.1:=by
 unfold markStep
 split
 ·rename_i hb
  simp only [markB,Bool.and_eq_true,Bool.or_eq_true,decide_eq_true_eq] at hb
  show (h.marks.getD n default).at_<=st.1
  rcases hb.2 with h1 | h1
  ·omega
  ·omega
 ·exact Int.le_refl _
theorem markTo_le (h:Hs) (c:Int) (i:Nat) (tab:List (Int × Int)) {k n:Nat} (hk:k < n) (h1:(h.marks.getD k default).th=i) (h2:(h.marks.getD k default).ch=c):(markTo h c i tab n).1<=(h.marks.getD k default).at_:=by
 induction n with
 | zero=>omega
 | succ n ih =>
  rw [markTo_succ]
  by_cases e:k=n
  ·subst e
   unfold markStep
   split
   ·exact Int.le_refl _
   ·rename_i hb
    have:¬ ((h.marks.getD k default).at_ < (markTo h c i tab k).1):=by
     intro h3
     refine hb ?_
     simp only [markB,Bool.and_eq_true,Bool.or_eq_true,decide_eq_true_eq]
     exact ⟨⟨h1,h2⟩,.inl h3⟩
    omega
  ·exact Int.le_trans (markStep_le h c i _ n) (ih (by omega))
theorem markTo_in (h:Hs) (c:Int) (i:Nat) (tab:List (Int × Int)) (Q:Int->Prop) (h0:Q (base7 h i tab).1):∀ n,(∀ k,k < n->(h.marks.getD k default).th=i->(h.marks.getD k default).ch=c->Q (h.marks.getD k default).at_)->Q (markTo h c i tab n).1:=by
 intro n
 induction n with
 | zero=>intro _; exact h0
 | succ n ih =>
  intro hm
  rw [markTo_succ]
  unfold markStep
  split
  ·rename_i hb
   simp only [markB,Bool.and_eq_true,decide_eq_true_eq] at hb
   exact hm n (by omega) hb.1.1 hb.1.2
  ·exact ih (fun k hk=>hm k (by omega))
theorem tS_at (h:Hs) (c:Int):∀ n i,i < n->tS h c n i=(markTo h c i (tab7 h c i) h.marks.length).1:=by
 intro n
 induction n with
 | zero=>intro i hi; omega
 | succ n ih =>
  intro i hi
  unfold tS
  rw [ts_succ]
  by_cases e:i=n
  ·rw [if_pos e,e]
  ·rw [if_neg e]; exact ih i (by omega)
theorem tS_le {h:Hs} {c:Int} {n i:Nat} (hi:i < n) {m:Mrk} (hm:m ∈ h.marks) (h1:m.th=i) (h2:m.ch=c):tS h c n i<=m.at_:=by
 rw [tS_at h c n i hi]
 obtain ⟨k,hk,rfl⟩:=List.getElem_of_mem hm
 have e:=Go.Ab.getD_lt h.marks default hk
 have:=markTo_le h c i (tab7 h c i) (k:=k) (n:=h.marks.length) hk (by rw [e]; exact h1) (by rw [e]; exact h2)
 rw [e] at this
 exact this
theorem tS_in {h:Hs} {c:Int} (Q:Nat->Int->Prop) (hq:∀ i,Q i 100) (ha:∀ i,Q i (thg h i).at_) (hm:∀ m,m ∈ h.marks->m.ch=c -> ∀ i:Nat,m.th=i->Q i m.at_) {n i:Nat} (hi:i < n):Q i (tS h c n i):=by
 rw [tS_at h c n i hi]
 refine markTo_in h c i _ (Q i) ?_ _ (fun k hk h1 h2=>hm _ (Go.Ab.getD_mem h.marks default hk) h2 i h1)
 unfold base7
 split
 ·exact ha i
 ·exact hq i
theorem tS_none {h:Hs} {c:Int} (hm:∀ m,m ∈ h.marks->m.ch ≠ c) (hT:∀ i,i < h.things.length->okT h i=true):∀ n,n<=h.things.length -> ∀ i,i < n->tS h c n i=100:=by
 intro n
 induction n with
 | zero=>intro _ i hi; omega
 | succ n ih =>
  intro hn i hi
  rw [tS_at h c (n + 1) i hi]
  refine markTo_in h c i _ (fun v=>v=100) ?_ _ (fun k hk _ h2=>absurd h2 (hm _ (Go.Ab.getD_mem h.marks default hk)))
  unfold base7
  rw [if_neg]
  intro hb
  simp only [baseB,Bool.and_eq_true,Bool.not_eq_true',decide_eq_false_iff_not,decide_eq_true_eq] at hb
  have hf:=okT_facts (hT i (by omega))
  have h2:((tab7 h c i).getD (thg h i).off.toNat (0,0)).1=100:=by
   by_cases e:i=n
   ·subst e; exact ih (by omega) _ (by omega)
   ·have h3:=ih (by omega) (thg h i).off.toNat (by omega)
    rw [tS_at h c n _ (by omega)] at h3
    have h4:=tS_at h c i (thg h i).off.toNat (by omega)
    unfold tS at h4
    rw [h4,h3]
  omega
theorem ris_snoc {l:List Int} {lo hi v:Int} (h:rising l lo hi=true) (h1:lo<=v/\v<=hi) (h2:∀ x,x ∈ l->x < v):rising (l ++ [v]) lo hi=true:=by
 unfold rising
 rw [List.all_eq_true]
 intro i hi'
 rw [List.length_append,List.length_singleton,List.mem_range] at hi'
 unfold risAt
 rw [Go.Ab.getD_append,Go.Ab.getD_append]
 by_cases e:i < l.length
 ·rw [if_pos e,if_pos (by omega)]
  exact List.all_eq_true.1 h i (List.mem_range.2 e)
 ·have ei:i=l.length:=by omega
  subst ei
  rw [if_neg e,Nat.sub_self]
  show (within v lo hi && _)=true
  rw [within_iff.2 h1,Bool.true_and,Bool.or_eq_true]
  by_cases e0:l.length=0
  ·left; rw [e0]; rfl
  ·right
   rw [if_pos (by omega),Bool.not_eq_true',decide_eq_false_iff_not]
   have:=h2 _ (Go.Ab.getD_mem l 0 (i:=l.length - 1) (by omega))
   show ¬ v<=_
   omega
theorem out_ris (w hi:Int):∀ k:Nat,(k:Int)<=hi + 1->rising (outTo w k) 0 hi=true:=by
 intro k
 induction k with
 | zero=>intro _; rfl
 | succ k ih =>
  intro hk
  cases hb:bitP w (k:Int) with
  | false=>rw [out_f hb]; exact ih (by omega)
  | true =>
   rw [out_t hb]
   refine ris_snoc (ih (by omega)) (by omega) (fun x hx => ?_)
   obtain ⟨i,h1,h2,_⟩:=mem_outTo hx
   omega
theorem rem_ris (t:Twn) (c:Int):rising (remT t c) 0 ((t.house.things.length:Int) - 1)=true:=by
 unfold remT leastR
 rcases bestR_is (onlyH t c) c t.minute (2 ^ (onlyH t c).things.length) with e | ⟨j,_,_,e⟩
 ·rw [e]; rfl
 ·rw [e]
  exact out_ris (j:Int) _ _ (by show ((t.house.things.length:Nat):Int)<=_; omega)
theorem rem_in (t:Twn) (c:Int):(remT t c).length<=t.house.things.length /\ ∀ v,v ∈ remT t c->0<=v/\v < t.house.things.length:=by
 unfold remT leastR
 rcases bestR_is (onlyH t c) c t.minute (2 ^ (onlyH t c).things.length) with e | ⟨j,_,_,e⟩
 ·rw [e]; exact ⟨Nat.zero_le _,fun v hv=>by cases hv⟩
 ·rw [e]
  refine ⟨out_len (j:Int) _,fun v hv => ?_⟩
  obtain ⟨i,h1,h2,_⟩:=mem_outTo hv
  replace h2:i < t.house.things.length:=h2
  omega
theorem okH_only {t:Twn} {c:Int} (h:okH t.house=true):okH (onlyH t c)=true:=by
 obtain ⟨l1,l2,hT,hM⟩:=okH_iff.1 h
 exact okH_iff.2 ⟨l1,Nat.le_trans (List.length_filter_le _ _) l2,hT,fun m hm=>hM m (List.mem_filter.1 hm).1⟩
theorem thTo_nil {P:Nat->Bool} {n:Nat} (h:∀ i,i < n->P i=false):thTo P n = []:=by
 induction n with
 | zero=>rfl
 | succ n ih=>rw [thTo_f (h n (by omega))]; exact ih (fun i hi=>h i (by omega))
theorem nil_thTo {P:Nat->Bool} {n:Nat} (h:(thTo P n).length=0):∀ i,i < n->P i=false:=by
 induction n with
 | zero=>intro i hi; omega
 | succ n ih =>
  intro i hi
  cases hp:P n with
  | true=>rw [thTo_t hp,List.length_append,List.length_singleton] at h; omega
  | false =>
   rw [thTo_f hp] at h
   by_cases e:i=n
   ·rw [e]; exact hp
   ·exact ih h i (by omega)
theorem bit_full {n i:Nat} (h:i < n):bitP (((2 ^ n - 1:Nat)):Int) (i:Int)=true:=by
 have h1:=Nat.testBit_two_pow_sub_one n i
 rw [decide_eq_true h,Nat.testBit_eq_decide_div_mod_eq] at h1
 have h2:=of_decide_eq_true h1
 unfold bitP
 rw [Int.toNat_natCast]
 refine decide_eq_true ?_
 have:(((2 ^ n - 1) / 2 ^ i % 2:Nat):Int)=1:=by rw [h2]; rfl
 rw [← this]
 push_cast
 rfl
theorem out_all {w:Int}:∀ {k:Nat},(∀ i:Nat,i < k->bitP w (i:Int)=true) -> ∀ i:Nat,i < k->(i:Int) ∈ outTo w k:=by
 intro k
 induction k with
 | zero=>intro _ i hi; omega
 | succ k ih =>
  intro h i hi
  rw [out_t (h k (by omega)),List.mem_append,List.mem_singleton]
  by_cases e:i=k
  ·right; rw [e]
  ·left; exact ih (fun j hj=>h j (by omega)) i (by omega)
theorem full_rem {g:Hs} {c now:Int} (hg:okH g=true) (hc:within c 0 2=true) (hn:within now 0 99=true):isRem g c now (2 ^ g.things.length - 1)=true:=by
 obtain ⟨l1,l2,hT,hM⟩:=okH_iff.1 hg
 unfold isRem lacks7
 rw [thTo_nil]
 ·rfl
 intro i hi
 replace hi:i < g.things.length:=hi
 unfold lackP
 have hmem:(i:Int) ∈ remL g (2 ^ g.things.length - 1):=out_all (fun j hj=>bit_full hj) i hi
 have hm:altM g c now (i:Int) ∈ (remH g c now (2 ^ g.things.length - 1)).marks:=List.mem_append_right _ (List.mem_map.2 ⟨_,hmem,rfl⟩)
 have h1:=tS_le (h:=remH g c now (2 ^ g.things.length - 1)) (c:=c) (n:=g.things.length) hi hm rfl rfl
 have h2:=Go.Sh.within_iff.1 hn
 have h3:=(okT_facts (hT i hi)).2.1
 have h4:(altM g c now (i:Int)).at_<=99:=by
  show max now (thg g (i:Int).toNat).at_<=99
  rw [Int.toNat_natCast]
  omega
 have h5:hasB (tS (remH g c now (2 ^ g.things.length - 1)) c (remH g c now (2 ^ g.things.length - 1)).things.length) 99 (i:Int)=true:=by
  unfold hasB
  rw [Int.toNat_natCast]
  refine decide_eq_true ?_
  show tS _ c g.things.length i<=99
  omega
 rw [h5]
 simp
theorem alt_has {t:Twn} {c:Int} (hg:okH t.house=true) (hc:within c 0 2=true) (hn:within t.minute 0 99=true) {i:Nat} (hi:i < t.house.things.length) (hp:(thg t.house i).prints=1):tS (altT t c).house c t.house.things.length i<=99:=by
 have hgo:=okH_only (c:=c) hg
 have hf:=full_rem hgo hc hn
 have hs:=bestR_some hf (2 ^ (onlyH t c).things.length) (by have:=Nat.two_pow_pos (onlyH t c).things.length; omega)
 rcases bestR_is (onlyH t c) c t.minute (2 ^ (onlyH t c).things.length) with e | ⟨j,_,hj,e⟩
 ·rw [e] at hs; cases hs
 ·have e2:remT t c=remL (onlyH t c) j:=by unfold remT leastR; rw [e]; rfl
  have e3:(altT t c).house=remH (onlyH t c) c t.minute j:=by unfold altT remH; rw [e2]
  rw [e3]
  have h1:((thTo (lackP (remH (onlyH t c) c t.minute j) (tS (remH (onlyH t c) c t.minute j) c t.house.things.length)) t.house.things.length).length:Int)=0:=of_decide_eq_true hj
  have h2:=nil_thTo (P:=lackP (remH (onlyH t c) c t.minute j) (tS (remH (onlyH t c) c t.minute j) c t.house.things.length)) (by omega) i hi
  unfold lackP at h2
  have h3:decide ((thg (remH (onlyH t c) c t.minute j) i).prints=1)=true:=decide_eq_true hp
  rw [h3,Bool.true_and,Bool.not_eq_false'] at h2
  have h4:=of_decide_eq_true h2
  rw [Int.toNat_natCast] at h4
  exact h4
theorem alt_mark {t:Twn} {c:Int} {m:Mrk} (hm:m ∈ (altT t c).house.marks):m.ch=c/\(m.at_<=t.minute ∨ ∀ i:Nat,m.th=i->m.at_<=(thg t.house i).at_):=by
 rcases List.mem_append.1 hm with h | h
 ·have h1:=(List.mem_filter.1 h).2
  simp only [keepM,Bool.and_eq_true,decide_eq_true_eq] at h1
  exact ⟨h1.1,.inl h1.2⟩
 ·obtain ⟨n,_,rfl⟩:=List.mem_map.1 h
  refine ⟨rfl,?_⟩
  show max t.minute (thg (onlyH t c) n.toNat).at_<=t.minute ∨ ∀ i:Nat,n=i->max t.minute (thg (onlyH t c) n.toNat).at_<=(thg t.house i).at_
  by_cases h2:(thg (onlyH t c) n.toNat).at_<=t.minute
  ·left; omega
  ·right
   intro i hi
   subst hi
   rw [Int.toNat_natCast] at h2 ⊢
   show max t.minute (thg t.house i).at_<=(thg t.house i).at_
   replace h2:¬ (thg t.house i).at_<=t.minute:=h2
   omega
theorem alt_now {t:Twn} {c:Int} {i:Nat} (hi:i < t.house.things.length) (ht:(thg t.house i).at_<=t.minute) (h:tS (altT t c).house c t.house.things.length i<=99):tS (altT t c).house c t.house.things.length i<=t.minute:=by
 have:=tS_in (h:=(altT t c).house) (c:=c) (fun i v=>v=100 ∨ v<=t.minute ∨ v<=(thg t.house i).at_) (fun _ => .inl rfl) (fun i => .inr (.inr (Int.le_refl _))) (fun m hm _ i hi=>by
  rcases (alt_mark hm).2 with h1 | h1
  ·exact .inr (.inl h1)
  ·exact .inr (.inr (h1 i hi))) hi
 omega
def vC (c:Int):Int:=1 * 2 ^ c.toNat
theorem alt_other {t:Twn} {c:Int} {d i:Nat} (hT:∀ i,i < t.house.things.length->okT (altT t c).house i=true) (hmi:t.minute<=99) (hi:i < t.house.things.length) (hd:(d:Int) ≠ c):hasT (altT t c) i d=false:=by
 have h:=tS_none (h:=(altT t c).house) (c:=(d:Int)) (fun m hm e=>hd (by rw [← e]; exact (alt_mark hm).1)) hT t.house.things.length (Nat.le_refl _) i hi
 unfold hasT hasH hasB
 rw [Int.toNat_natCast]
 refine decide_eq_false ?_
 show ¬ tS (altT t c).house (d:Int) t.house.things.length i<=t.minute
 omega
theorem alt_set {t:Twn} {c:Int} {i:Nat} (hT:∀ i,i < t.house.things.length->okT (altT t c).house i=true) (hmi:t.minute<=99) (hc:within c 0 2=true) (hi:i < t.house.things.length):setTo (altT t c) i 3=if hasT (altT t c) i c.toNat then vC c else 0:=by
 have hc:=within_iff.1 hc
 have h:c=0 ∨ c=1 ∨ c=2:=by omega
 rcases h with rfl | rfl | rfl
 ·have h1:=alt_other (d:=1) hT hmi hi (by omega)
  have h2:=alt_other (d:=2) hT hmi hi (by omega)
  simp only [setTo,h1,h2]
  show _=if hasT (altT t 0) i 0 then vC 0 else 0
  cases hasT (altT t 0) i 0 <;> rfl
 ·have h1:=alt_other (d:=0) hT hmi hi (by omega)
  have h2:=alt_other (d:=2) hT hmi hi (by omega)
  simp only [setTo,h1,h2]
  show _=if hasT (altT t 1) i 1 then vC 1 else 0
  cases hasT (altT t 1) i 1 <;> rfl
 ·have h1:=alt_other (d:=0) hT hmi hi (by omega)
  have h2:=alt_other (d:=1) hT hmi hi (by omega)
  simp only [setTo,h1,h2]
  show _=if hasT (altT t 2) i 2 then vC 2 else 0
  cases hasT (altT t 2) i 2 <;> rfl
theorem lorI_v {c:Int} (hc:within c 0 2=true) (a b:Bool):lorI (if a then vC c else 0) (if b then vC c else 0)=if a || b then vC c else 0:=by
 have hc:=within_iff.1 hc
 have h:c=0 ∨ c=1 ∨ c=2:=by omega
 rcases h with rfl | rfl | rfl <;> cases a <;> cases b <;> rfl
def someT (t:Twn) (c:Int) (p:Int) (n:Nat):Bool:=(List.range n).any fun k=>thereT t k && decide ((pgN t.house k:Int)=p) && hasT t k c.toNat
theorem someT_succ (t:Twn) (c p:Int) (n:Nat):someT t c p (n + 1)=(someT t c p n || (thereT t n && decide ((pgN t.house n:Int)=p) && hasT t n c.toNat)):=by
 unfold someT; rw [List.range_succ,List.any_append]; simp
theorem alt_pages {t:Twn} {c:Int} (hT:∀ i,i < t.house.things.length->okT (altT t c).house i=true) (hmi:t.minute<=99) (hc:within c 0 2=true):∀ n,n<=t.house.things.length -> ∀ p,mlook (esT (altT t c) n) p=if someT (altT t c) c p n then vC c else 0:=by
 intro n
 induction n with
 | zero=>intro _ p; rfl
 | succ n ih =>
  intro hn p
  rw [esT,someT_succ]
  cases ht:thereT (altT t c) n with
  | false =>
   show mlook (esT (altT t c) n) p=_
   rw [ih (by omega),Bool.false_and,Bool.false_and,Bool.or_false]
  | true =>
   show mlook (esT (altT t c) n ++ _) p=_
   rw [mlook_snoc]
   by_cases e:(pgN (altT t c).house n:Int)=p
   ·rw [if_pos e]
    show lorI (mlook (esT (altT t c) n) (pgN (altT t c).house n:Int)) (setTo (altT t c) n 3)=_
    rw [ih (by omega),alt_set hT hmi hc (by omega),lorI_v hc,e,decide_eq_true rfl]
    rfl
   ·rw [if_neg e,ih (by omega),decide_eq_false e]
    simp
theorem alt_fresh {t:Twn} {c:Int} (hok:okTwn t=true) (hc:within c 0 2=true) {i:Nat} (hi:i < t.house.things.length) (hp:(thg t.house i).prints=1) (ht:thereT t i=true):freshT (altT t c) i=true:=by
 obtain ⟨hH,hr,hpl,hca,hmi,hP,hR,hro⟩:=okTwn_iff.1 hok
 obtain ⟨l1,l2,hT,hM⟩:=okH_iff.1 hH
 have hT':∀ i,i < t.house.things.length->okT (altT t c).house i=true:=hT
 have ht':thereT (altT t c) i=true:=ht
 have hhas:hasT (altT t c) i c.toNat=true:=by
  have h1:=alt_now hi (of_decide_eq_true ht) (alt_has hH hc (within_iff.2 hmi) hi hp)
  unfold hasT hasH hasB
  rw [Int.toNat_natCast,Int.toNat_of_nonneg (within_iff.1 hc).1]
  exact decide_eq_true h1
 have hsome:someT (altT t c) c (pgN (altT t c).house i:Int) t.house.things.length=true:=by
  unfold someT
  rw [List.any_eq_true]
  exact ⟨i,List.mem_range.2 hi,by rw [ht',hhas,decide_eq_true rfl]; rfl⟩
 unfold freshT
 rw [Bool.and_eq_true]
 refine ⟨by unfold thrN; rw [ht']; rfl,decide_eq_true ?_⟩
 have e1:setT (altT t c) i=vC c:=by unfold setT; rw [ht',if_pos rfl,alt_set hT' hmi.2 hc hi,hhas]; rfl
 have e2:mlook (pagesT (altT t c)) (pgN (altT t c).house i:Int)=vC c:=by
  unfold pagesT
  rw [show (altT t c).house.things.length=t.house.things.length from rfl,alt_pages hT' hmi.2 hc _ (Nat.le_refl _),hsome]; rfl
 rw [e1,e2]
theorem lf_pos {t:Twn} {b:Int} {p x:Nat} (h1:leftP t b x=true) (h2:onP t p x=true):∀ n,x < n->0 < lfN t b p n:=by
 intro n
 induction n with
 | zero=>intro h; omega
 | succ n ih =>
  intro h
  rw [lfN]
  by_cases e:x=n
  ·subst e; rw [h1,h2]; exact Nat.succ_pos _
  ·have:=ih (by omega); split <;> omega
theorem fr_pos {t:Twn} {b:Int} {p x:Nat} (h1:leftP t b x=true) (h2:onP t p x=true) (h3:freshT t x=true):∀ n,x < n->0 < frN t b p n:=by
 intro n
 induction n with
 | zero=>intro h; omega
 | succ n ih =>
  intro h
  rw [frN]
  by_cases e:x=n
  ·subst e; rw [h1,h2,h3]; exact Nat.succ_pos _
  ·have:=ih (by omega); split <;> omega
theorem not_in {P:Nat->Bool} {n p:Nat} (h:P p=false):isIn (thTo P n) (p:Int)=false:=by
 unfold isIn
 rw [List.any_eq_false]
 intro x hx hd
 obtain ⟨i,h1,_,h3⟩:=mem_thTo hx
 have:=of_decide_eq_true hd
 have e:i=p:=by omega
 subst e
 rw [h] at h3; cases h3
theorem safe_two {t:Twn} {i k:Nat} (hi:i < t.house.things.length) (hk:k < t.house.things.length) (ti:thereT t i=true) (tk:thereT t k=true) (fi:freshT t i=true) (fk:freshT t k=true) (hp:pgN t.house k=pgN t.house i) (hd:t.places.getD k 0 ≠ t.places.getD i 0) (b:Int) :
  isIn (lostL t b) (pgN t.house i:Int)=false/\isIn (staleL t b) (pgN t.house i:Int)=false:=by
 have hx:∃ x,x < t.house.things.length/\leftP t b x=true/\onP t (pgN t.house i) x=true/\freshT t x=true:=by
  by_cases e:t.places.getD i 0=b
  ·refine ⟨k,hk,?_,?_,fk⟩
   ·unfold leftP thrN; rw [Bool.and_eq_true]; exact ⟨by rw [tk]; rfl,by rw [Bool.not_eq_true',decide_eq_false_iff_not]; omega⟩
   ·unfold onP; rw [hp]; exact decide_eq_true rfl
  ·refine ⟨i,hi,?_,?_,fi⟩
   ·unfold leftP thrN; rw [Bool.and_eq_true]; exact ⟨by rw [ti]; rfl,by rw [Bool.not_eq_true',decide_eq_false_iff_not]; omega⟩
   ·unfold onP; exact decide_eq_true rfl
 obtain ⟨x,x1,x2,x3,x4⟩:=hx
 have h1:0 < lfT t b (pgN t.house i):=lf_pos x2 x3 _ x1
 have h2:0 < frT t b (pgN t.house i):=fr_pos x2 x3 x4 _ x1
 refine ⟨not_in ?_,not_in ?_⟩
 ·unfold lostB; rw [decide_eq_false (by omega),Bool.and_false]
 ·unfold staleB; rw [decide_eq_false (p:=frT t b (pgN t.house i)=0) (by omega),Bool.and_false]
end Go.Sh
namespace Go.Sh
open Go.Ab
def onlyM (t:Twn) (c:Int) (n:Nat):List Mrk:=(t.house.marks.take n).filter (keepM t c)
theorem onlyM_t {t:Twn} {c:Int} {n:Nat} (hn:n < t.house.marks.length) (h:keepM t c (t.house.marks.getD n default)=true):onlyM t c (n + 1)=onlyM t c n ++ [t.house.marks.getD n default]:=by
 unfold onlyM
 rw [Go.Ab.take_succ _ default hn,List.filter_append,List.filter_cons_of_pos h]; rfl
theorem onlyM_f {t:Twn} {c:Int} {n:Nat} (hn:n < t.house.marks.length) (h:keepM t c (t.house.marks.getD n default)=false):onlyM t c (n + 1)=onlyM t c n:=by
 unfold onlyM
 rw [Go.Ab.take_succ _ default hn,List.filter_append,List.filter_cons_of_neg (by rw [h]; decide)]; exact List.append_nil _
theorem onlyM_all (t:Twn) (c:Int):onlyM t c t.house.marks.length=(onlyH t c).marks:=by unfold onlyM onlyH; rw [List.take_length]
theorem onlyM_len (t:Twn) (c:Int) (n:Nat):(onlyM t c n).length<=n:=by
 unfold onlyM
 exact Nat.le_trans (List.length_filter_le _ _) (by rw [List.length_take]; omega)
end Go.Sh
namespace Go.Ab
open Go Go.RowKit Go.Proofs Go.Sh Go.En
def s3 (t:Twn) (c:Int):CallSpec:={ args:=[vTwn t,iv c],res:=bv true,pre:=fitsT t }
def h3a (t:Twn) (c:Int):Hint:={ X:=Nat,M:=fun n=>[(6,iv n),(5,.ptr 5000 [])],H:=fun n=>[(5000,.cells 28 [.sl 4 t.house.things.length (fun i=>cThg (thg t.house i)),.vec 5001,aInts t.places,aInts t.carry,aInts t.rooms,iv t.minute]),(5001,.vec 36 3 (onlyM t c n).length (fun k=>cMrk ((onlyM t c n).getD k default)))],I:=fun n=>n<=t.house.marks.length,mu:=fun n=>t.house.marks.length - n,x0:=(0:Nat),nx:=fun n=>n + 1 }
def h3b (t:Twn) (c:Int):Hint:={ X:=Nat,M:=fun x=>[(10,iv x)],I:=fun x=>x<=t.places.length,mu:=fun x=>t.places.length - x,x0:=(0:Nat),nx:=fun x=>x + 1 }
def h3c (t:Twn) (c:Int) (x:Nat):Hint:={ X:=Nat,M:=fun y=>[(13,iv y)],I:=fun y=>y<=x,mu:=fun y=>x - y,x0:=(0:Nat),nx:=fun y=>y + 1 }
def h3d (t:Twn) (c:Int) (x y:Nat):Hint:={ X:=Nat,M:=fun z=>[(14,iv z)],I:=fun z=>z<=t.rooms.length,mu:=fun z=>t.rooms.length - z,x0:=(0:Nat),nx:=fun z=>z + 1 }
def c3a (t:Twn) (c:Int):CallSpec:=s11 (onlyH t c)
def c3b (t:Twn) (c:Int):CallSpec:=s10 (onlyH t c) c t.minute
def c3r (t:Twn) (c:Int):CallSpec:=s12 (remT t c) 0 ((t.house.things.length:Int) - 1)
def c3c (t:Twn) (c:Int):CallSpec:=s13 (onlyH t c) c t.minute (remT t c)
theorem t41o (t:Twn):Triple Try.prog 41 (s41o t):=⟨t41.1,fun h=>by cases h; exact t41.2 trivial⟩
end Go.Ab
namespace Go.Ab
open Go Go.RowKit Go.Proofs Go.Sh Go.En
theorem w8 (g:Hs) (k:Hs) (t:Twn)
  (o0:(g=exH/\k=exG)/\t=exT->g=exH)
  (o1:(g=exH/\k=exG)/\t=exT->k=exG)
  (o2:(g=exH/\k=exG)/\t=exT->okH g=true)
  (o3:(g=exH/\k=exG)/\t=exT->okTwn t=true)
  (o4:(g=exH/\k=exG)/\t=exT->(bif decide (outN (leastR g 0 15)=5) then decide ((wstT t (Twn.rooms t).length).1=1) else false)=true) :
  Triple Try.prog 8 (sw8 g k t):=by
 refine triple_of Try.func8 rfl Try.call8 T0_ok _ rfl rfl rfl rfl (Nat.le_of_ble_eq_true (by kernel_rfl)) (fun _ _ _ _ h=>h) ?_
 intro hpre C hC _ hE
 obtain ⟨P,w0,E0,av,hA,ro,df⟩:=C
 obtain ⟨rfl,rfl,rfl⟩:=hC
 refine swp_seq ?_
 refine zR [] [] (Ak 1 tv) ?_
 refine swp_seq ?_
 refine zC ([(0,CallSpec.eq (c8a g k t) [])]) [1] [40] (An (Ak 1 (An (t38o (g) (k)) (An (An (o0 hpre) (o1 hpre)) (Ak 1 (fun (i0:Env)=>tv))))) (Ak 7 tv)) ?_
 refine swp_seq ?_
 refine zC ([(1,CallSpec.eq (s39 g 0 15) [true,true,true])]) [3,4] [] (Ak 1 (An (An (An (zr (AV.agg (cHs g))) (An (zr (iv 0)) (An (zr (iv 15)) tv))) (An (t39 (g) (0) (15)) (An (An (o2 hpre) (An (by decide:within 0 0 2=true) (by decide:within 15 0 99=true))) (Ak 1 (fun (i1:Env)=>tv))))) (Ak 5 tv))) ?_
 refine swp_seq ?_
 refine zC ([(0,CallSpec.eq (c8b g k t) []),(1,CallSpec.eq (s40 t) [true])]) [3,4,5,6] [] (An (Ak 1 (An (t41o (t)) (An hpre.2 (Ak 1 (fun (i2:Env)=>tv))))) (An (An (An (zr (AV.agg (cTwn t))) tv) (An (t40 (t)) (An (o3 hpre) (Ak 1 (fun (i3:Env)=>tv))))) (Ak 5 tv))) ?_
 refine swp_seq ?_
 refine zR [0] [] (Ak 3 (An (fun (y4:true=true)=>(An (Ak 1 tv) tv)) (An (fun (y5:true=true)=>(An (An (fun (y6:true=true)=>(zr true)) (Ak 1 tv)) tv)) (An (An (fun (y7:true=true)=>(zr true)) (fun (y8:true=false)=>tv)) (Ak 1 (An (fun (y9:true=true)=>(An (Ak 1 tv) tv)) (An (fun (y10:true=true)=>(An (An (fun (y11:true=true)=>(zr true)) (Ak 1 tv)) tv)) (An (An (fun (y12:true=true)=>(zr true)) (fun (y13:true=false)=>tv)) (Ak 1 (An (fun (y14:decide (outN (leastR g 0 15)=5)=true)=>(An (Ak 1 tv) tv)) (An (fun (y15:decide (outN (leastR g 0 15)=5)=true)=>(An (An (fun (y16:decide (outN (leastR g 0 15)=5)=true)=>y15) (Ak 1 tv)) tv)) (An (An (fun (y17:decide (outN (leastR g 0 15)=5)=true)=>y17) (fun (y18:decide (outN (leastR g 0 15)=5)=false)=>tv)) (Ak 1 tv))))))))))))) ?_
 refine swp_ret ?_
 exact zT [] (An (Ak 1 tv) (An (An (cb (o4 hpre)) (zr nilN)) (An (zr true) (An (zr true) (zr true)))))
theorem tw8 (g k:Hs) (t:Twn):Triple Try.prog 8 (sw8 g k t):=by
 apply w8
 case o2=>rintro ⟨⟨rfl,rfl⟩,rfl⟩; decide +kernel
 case o3=>rintro ⟨⟨rfl,rfl⟩,rfl⟩; decide +kernel
 case o4=>rintro ⟨⟨rfl,rfl⟩,rfl⟩; decide +kernel
 all_goals (first | ((repeat intro _) <;> (try simp only [Bool.cond_true_left,Bool.cond_false_right,Bool.not_not,Bool.not_eq_true',Bool.not_eq_false',Bool.or_eq_true,Bool.or_eq_false_iff,Bool.and_eq_true,decide_eq_true_eq,decide_eq_false_iff_not,inI,big] at *) <;> first | (exact rfl) | omega | (exact ⟨Nat.zero_le _,fun j hj=>absurd hj (Nat.not_lt_zero j)⟩) | (simp_all; done) | (simp_all; omega)) | skip)
theorem t8:Triple Try.prog 8 s8:=⟨(tw8 exH exG exT).1,fun _=>(tw8 exH exG exT).2 ⟨⟨rfl,rfl⟩,rfl⟩⟩
abbrev q47 (t:Twn) (Pq:Prop):Prop:=fitsT t->Pq
abbrev q48 (t:Twn) (c:Int) (Pq:Prop):Prop:=q47 t ((bif bif far10 t then true else !decide (check10 t=0) then true else !within c 0 2)=false->Pq)
abbrev q49 (t:Twn) (x20:Nat) (Pq:Prop):Prop:=x20<=(Hs.marks (Twn.house t)).length->Pq
abbrev q4a (t:Twn) (x20:Nat) (Pq:Prop):Prop:=q49 t x20 (decide ((x20:Int) < (↑((Hs.marks (Twn.house t)).length):Int))=true->Pq)
abbrev q4b (t:Twn) (c:Int) (x20:Nat) (Pq:Prop):Prop:=q4a t x20 ((bif decide (Mrk.ch ((Hs.marks (Twn.house t)).getD x20 default)=c) then decide (Mrk.at_ ((Hs.marks (Twn.house t)).getD x20 default)<=Twn.minute t) else false)=true->Pq)
abbrev q4c (t:Twn) (c:Int) (x20:Nat) (Pq:Prop):Prop:=q4a t x20 ((bif decide (Mrk.ch ((Hs.marks (Twn.house t)).getD x20 default)=c) then decide (Mrk.at_ ((Hs.marks (Twn.house t)).getD x20 default)<=Twn.minute t) else false)=false->Pq)
abbrev q4d (t:Twn) (x20:Nat) (Pq:Prop):Prop:=q49 t x20 (decide ((x20:Int) < (↑((Hs.marks (Twn.house t)).length):Int))=false->Pq)
abbrev q4e (t:Twn) (c:Int) (x20:Nat) (Pq:Prop):Prop:=q4d t x20 ((!decide (check10 (altT t c)=0))=false->Pq)
abbrev q4f (t:Twn) (c:Int) (x120:Nat) (Pq:Prop):Prop:=x120<=(Twn.places t).length->decide ((x120:Int) < (↑((Twn.places (altT t c)).length):Int))=true->Pq
abbrev q4g (t:Twn) (c:Int) (x120:Nat) (Pq:Prop):Prop:=q4f t c x120 ((bif decide (Thg.prints (thg (Twn.house (altT t c)) x120)=0) then true else !thereT (altT t c) x120)=true->Pq)
abbrev q4h (t:Twn) (c:Int) (x120:Nat) (Pq:Prop):Prop:=q4f t c x120 ((bif decide (Thg.prints (thg (Twn.house (altT t c)) x120)=0) then true else !thereT (altT t c) x120)=false->Pq)
abbrev q4i (x120:Nat) (x139:Nat) (Pq:Prop):Prop:=x139<=x120->Pq
abbrev q4j (x120:Nat) (x139:Nat) (Pq:Prop):Prop:=q4i x120 x139 (decide ((x139:Int) < (x120:Int))=true->Pq)
abbrev q4k (t:Twn) (c:Int) (x120:Nat) (x139:Nat) (Pq:Prop):Prop:=q4j x120 x139 ((!bif decide (Thg.prints (thg (Twn.house (altT t c)) x139)=0) then true else !thereT (altT t c) x139)=true->Pq)
abbrev q4l (t:Twn) (c:Int) (x120:Nat) (x139:Nat) (Pq:Prop):Prop:=q4j x120 x139 ((!bif bif decide (Thg.prints (thg (Twn.house (altT t c)) x139)=0) then true else !thereT (altT t c) x139 then true else !decide ((↑(pgN (Twn.house (altT t c)) x139):Int)=(↑(pgN (Twn.house (altT t c)) x120):Int)))=true->Pq)
abbrev q4m (t:Twn) (c:Int) (x120:Nat) (x139:Nat) (Pq:Prop):Prop:=q4j x120 x139 ((bif bif bif decide (Thg.prints (thg (Twn.house (altT t c)) x139)=0) then true else !thereT (altT t c) x139 then true else !decide ((↑(pgN (Twn.house (altT t c)) x139):Int)=(↑(pgN (Twn.house (altT t c)) x120):Int)) then true else decide ((Twn.places (altT t c)).getD x139 0=(Twn.places (altT t c)).getD x120 0))=true->Pq)
abbrev q4n (t:Twn) (c:Int) (x120:Nat) (x139:Nat) (Pq:Prop):Prop:=q4j x120 x139 ((bif bif bif decide (Thg.prints (thg (Twn.house (altT t c)) x139)=0) then true else !thereT (altT t c) x139 then true else !decide ((↑(pgN (Twn.house (altT t c)) x139):Int)=(↑(pgN (Twn.house (altT t c)) x120):Int)) then true else decide ((Twn.places (altT t c)).getD x139 0=(Twn.places (altT t c)).getD x120 0))=false->Pq)
abbrev q4o (t:Twn) (x192:Nat) (Pq:Prop):Prop:=x192<=(Twn.rooms t).length->Pq
abbrev q4p (t:Twn) (c:Int) (x192:Nat) (Pq:Prop):Prop:=q4o t x192 (decide ((x192:Int) < (↑((Twn.rooms (altT t c)).length):Int))=true->Pq)
abbrev q4q (t:Twn) (c:Int) (x192:Nat) (Pq:Prop):Prop:=q4o t x192 (decide ((x192:Int) < (↑((Twn.rooms (altT t c)).length):Int))=false->Pq)
abbrev q4r (x120:Nat) (x139:Nat) (Pq:Prop):Prop:=q4i x120 x139 (decide ((x139:Int) < (x120:Int))=false->Pq)
theorem w3 (t:Twn) (c:Int)
 (o0:q47 t (far10 t=false->(!far10 t)=true))
 (o1:q47 t ((bif far10 t then true else !decide (check10 t=0))=false->(!bif far10 t then true else !decide (check10 t=0))=true))
 (o2:q48 t c ((Hs.things (Twn.house t)).length<=64))
 (o3:q48 t c ((Hs.marks (Twn.house t)).length<=64))
 (o4:q48 t c ((Twn.places t).length<=64))
 (o5:q48 t c ((Twn.carry t).length<=64))
 (o6:q48 t c ((Twn.rooms t).length<=64))
 (o7:q48 t c (0=(↑0:Int)))
 (o8:q48 t c ((onlyM t c 0).length=0))
 (o9:q48 t c (0<=(Hs.marks (Twn.house t)).length))
 (o10:q48 t c (∀ (x20:Nat),q4a t x20 (0<=(x20:Int))))
 (o11:q48 t c (∀ (x20:Nat),q4a t x20 ((x20:Int) < (↑((Hs.marks (Twn.house t)).length):Int))))
 (o12:q48 t c (∀ (x20:Nat),q4b t c x20 ((onlyM t c x20).length + 1<=65536)))
 (o13:q48 t c (∀ (x20:Nat),q4b t c x20 (inI ((x20:Int) + 1))))
 (o14:q48 t c (∀ (x20:Nat),q4b t c x20 ((x20:Int) + 1=(↑(x20 + 1):Int))))
 (o15:q48 t c (∀ (x20:Nat),q4b t c x20 ((onlyM t c x20).length + 1=(onlyM t c (x20 + 1)).length)))
 (o16:q48 t c (∀ (x20:Nat),q4b t c x20 (∀ (i50:Nat),i50 < (onlyM t c x20).length + 1->catF (onlyM t c x20).length (fun (k:Nat)=>cMrk ((onlyM t c x20).getD k default)) (fun (j:Nat)=>List.getD [[iv (Mrk.ch ((Hs.marks (Twn.house t)).getD x20 default)),iv (Mrk.th ((Hs.marks (Twn.house t)).getD x20 default)),iv (Mrk.at_ ((Hs.marks (Twn.house t)).getD x20 default))]] j (TI.za ti36)) i50=cMrk ((onlyM t c (x20 + 1)).getD i50 default))))
 (o17:q48 t c (∀ (x20:Nat),q4b t c x20 (x20 + 1<=(Hs.marks (Twn.house t)).length)))
 (o18:q48 t c (∀ (x20:Nat),q4b t c x20 ((Hs.marks (Twn.house t)).length - (x20 + 1) < (Hs.marks (Twn.house t)).length - x20)))
 (o19:q48 t c (∀ (x20:Nat),q4c t c x20 (inI ((x20:Int) + 1))))
 (o20:q48 t c (∀ (x20:Nat),q4c t c x20 ((x20:Int) + 1=(↑(x20 + 1):Int))))
 (o21:q48 t c (∀ (x20:Nat),q4c t c x20 ((onlyM t c x20).length=(onlyM t c (x20 + 1)).length)))
 (o22:q48 t c (∀ (x20:Nat),q4c t c x20 (∀ (i60:Nat),i60 < (onlyM t c x20).length->cMrk ((onlyM t c x20).getD i60 default)=cMrk ((onlyM t c (x20 + 1)).getD i60 default))))
 (o23:q48 t c (∀ (x20:Nat),q4c t c x20 (x20 + 1<=(Hs.marks (Twn.house t)).length)))
 (o24:q48 t c (∀ (x20:Nat),q4c t c x20 ((Hs.marks (Twn.house t)).length - (x20 + 1) < (Hs.marks (Twn.house t)).length - x20)))
 (o25:q48 t c (∀ (x20:Nat),q4d t x20 ((Hs.things (Twn.house t)).length=(Hs.things (Twn.house (onlyT t c))).length)))
 (o26:q48 t c (∀ (x20:Nat),q4d t x20 (∀ (i62:Nat),i62 < (Hs.things (Twn.house (onlyT t c))).length->cThg (thg (Twn.house t) i62)=cThg (thg (Twn.house (onlyT t c)) i62))))
 (o27:q48 t c (∀ (x20:Nat),q4d t x20 ((onlyM t c x20).length=(Hs.marks (Twn.house (onlyT t c))).length)))
 (o28:q48 t c (∀ (x20:Nat),q4d t x20 (∀ (i64:Nat),i64 < (Hs.marks (Twn.house (onlyT t c))).length->cMrk ((onlyM t c x20).getD i64 default)=cMrk ((Hs.marks (Twn.house (onlyT t c))).getD i64 default))))
 (o29:q48 t c (∀ (x20:Nat),q4d t x20 ((Twn.places t).length=(Twn.places (onlyT t c)).length)))
 (o30:q48 t c (∀ (x20:Nat),q4d t x20 (∀ (i66:Nat),i66 < (Twn.places (onlyT t c)).length -> [iv ((Twn.places t).getD i66 0)] = [iv ((Twn.places (onlyT t c)).getD i66 0)])))
 (o31:q48 t c (∀ (x20:Nat),q4d t x20 ((Twn.carry t).length=(Twn.carry (onlyT t c)).length)))
 (o32:q48 t c (∀ (x20:Nat),q4d t x20 (∀ (i68:Nat),i68 < (Twn.carry (onlyT t c)).length -> [iv ((Twn.carry t).getD i68 0)] = [iv ((Twn.carry (onlyT t c)).getD i68 0)])))
 (o33:q48 t c (∀ (x20:Nat),q4d t x20 ((Twn.rooms t).length=(Twn.rooms (onlyT t c)).length)))
 (o34:q48 t c (∀ (x20:Nat),q4d t x20 (∀ (i70:Nat),i70 < (Twn.rooms (onlyT t c)).length -> [iv ((Twn.rooms t).getD i70 0)] = [iv ((Twn.rooms (onlyT t c)).getD i70 0)])))
 (o35:q48 t c (∀ (x20:Nat),q4d t x20 (Twn.minute t=Twn.minute (onlyT t c))))
 (o36:q48 t c (∀ (x20:Nat),q4d t x20 ((Hs.things (Twn.house (onlyT t c))).length=(Hs.things (onlyH t c)).length)))
 (o37:q48 t c (∀ (x20:Nat),q4d t x20 (∀ (i72:Nat),i72 < (Hs.things (onlyH t c)).length->cThg (thg (Twn.house (onlyT t c)) i72)=cThg (thg (onlyH t c) i72))))
 (o38:q48 t c (∀ (x20:Nat),q4d t x20 ((Hs.marks (Twn.house (onlyT t c))).length=(Hs.marks (onlyH t c)).length)))
 (o39:q48 t c (∀ (x20:Nat),q4d t x20 (∀ (i74:Nat),i74 < (Hs.marks (onlyH t c)).length->cMrk ((Hs.marks (Twn.house (onlyT t c))).getD i74 default)=cMrk ((Hs.marks (onlyH t c)).getD i74 default))))
 (o40:q48 t c (∀ (x20:Nat),q4d t x20 ((Hs.things (onlyH t c)).length<=65536)))
 (o41:q48 t c (∀ (x20:Nat),q4d t x20 ((Hs.marks (onlyH t c)).length<=65536)))
 (o42:q48 t c (∀ (x20:Nat),q4d t x20 (okH (onlyH t c)=true)))
 (o43:q48 t c (∀ (x20:Nat),q4d t x20 (within c 0 2=true)))
 (o44:q48 t c (∀ (x20:Nat),q4d t x20 (within (Twn.minute t) 0 99=true)))
 (o45:q48 t c (∀ (x20:Nat),q4d t x20 ((!false)=true->inI ((↑((Hs.things (Twn.house t)).length):Int) - 1))))
 (o46:q48 t c (∀ (x20:Nat),q4d t x20 ((!false)=true->(outL (leastR (onlyH t c) c (Twn.minute t))).length=(remT t c).length)))
 (o47:q48 t c (∀ (x20:Nat),q4d t x20 ((!false)=true -> ∀ (i91:Nat),i91 < (remT t c).length -> [iv ((outL (leastR (onlyH t c) c (Twn.minute t))).getD i91 0)] = [iv ((remT t c).getD i91 0)])))
 (o48:q48 t c (∀ (x20:Nat),q4d t x20 ((!false)=true->(remT t c).length<=big)))
 (o49:q48 t c (∀ (x20:Nat),q4d t x20 ((!rising (remT t c) 0 ((↑((Hs.things (Twn.house t)).length):Int) - 1))=false)))
 (o50:q48 t c (∀ (x20:Nat),q4d t x20 ((Hs.things (Twn.house (onlyT t c))).length=(Hs.things (onlyH t c)).length)))
 (o51:q48 t c (∀ (x20:Nat),q4d t x20 (∀ (i98:Nat),i98 < (Hs.things (onlyH t c)).length->cThg (thg (Twn.house (onlyT t c)) i98)=cThg (thg (onlyH t c) i98))))
 (o52:q48 t c (∀ (x20:Nat),q4d t x20 ((Hs.marks (Twn.house (onlyT t c))).length=(Hs.marks (onlyH t c)).length)))
 (o53:q48 t c (∀ (x20:Nat),q4d t x20 (∀ (i100:Nat),i100 < (Hs.marks (onlyH t c)).length->cMrk ((Hs.marks (Twn.house (onlyT t c))).getD i100 default)=cMrk ((Hs.marks (onlyH t c)).getD i100 default))))
 (o54:q48 t c (∀ (x20:Nat),q4d t x20 ((outL (leastR (onlyH t c) c (Twn.minute t))).length=(remT t c).length)))
 (o55:q48 t c (∀ (x20:Nat),q4d t x20 (∀ (i102:Nat),i102 < (remT t c).length -> [iv ((outL (leastR (onlyH t c) c (Twn.minute t))).getD i102 0)] = [iv ((remT t c).getD i102 0)])))
 (o56:q48 t c (∀ (x20:Nat),q4d t x20 ((Hs.things (onlyH t c)).length<=64)))
 (o57:q48 t c (∀ (x20:Nat),q4d t x20 ((Hs.marks (onlyH t c)).length<=64)))
 (o58:q48 t c (∀ (x20:Nat),q4d t x20 ((remT t c).length<=64)))
 (o59:q48 t c (∀ (x20:Nat),q4d t x20 (∀ (i104:Nat),i104 < (remT t c).length->0<=(remT t c).getD i104 0)))
 (o60:q48 t c (∀ (x20:Nat),q4d t x20 (∀ (i104:Nat),i104 < (remT t c).length->(remT t c).getD i104 0 < (↑((Hs.things (onlyH t c)).length):Int))))
 (o61:q48 t c (∀ (x20:Nat),q4d t x20 ((Hs.things (altH (onlyH t c) c (Twn.minute t) (remT t c))).length=(Hs.things (Twn.house (altT t c))).length)))
 (o62:q48 t c (∀ (x20:Nat),q4d t x20 (∀ (i107:Nat),i107 < (Hs.things (Twn.house (altT t c))).length->cThg (thg (altH (onlyH t c) c (Twn.minute t) (remT t c)) i107)=cThg (thg (Twn.house (altT t c)) i107))))
 (o63:q48 t c (∀ (x20:Nat),q4d t x20 ((Hs.marks (altH (onlyH t c) c (Twn.minute t) (remT t c))).length=(Hs.marks (Twn.house (altT t c))).length)))
 (o64:q48 t c (∀ (x20:Nat),q4d t x20 (∀ (i109:Nat),i109 < (Hs.marks (Twn.house (altT t c))).length->cMrk ((Hs.marks (altH (onlyH t c) c (Twn.minute t) (remT t c))).getD i109 default)=cMrk ((Hs.marks (Twn.house (altT t c))).getD i109 default))))
 (o65:q48 t c (∀ (x20:Nat),q4d t x20 ((Twn.places (onlyT t c)).length=(Twn.places (altT t c)).length)))
 (o66:q48 t c (∀ (x20:Nat),q4d t x20 (∀ (i111:Nat),i111 < (Twn.places (altT t c)).length -> [iv ((Twn.places (onlyT t c)).getD i111 0)] = [iv ((Twn.places (altT t c)).getD i111 0)])))
 (o67:q48 t c (∀ (x20:Nat),q4d t x20 ((Twn.carry (onlyT t c)).length=(Twn.carry (altT t c)).length)))
 (o68:q48 t c (∀ (x20:Nat),q4d t x20 (∀ (i113:Nat),i113 < (Twn.carry (altT t c)).length -> [iv ((Twn.carry (onlyT t c)).getD i113 0)] = [iv ((Twn.carry (altT t c)).getD i113 0)])))
 (o69:q48 t c (∀ (x20:Nat),q4d t x20 ((Twn.rooms (onlyT t c)).length=(Twn.rooms (altT t c)).length)))
 (o70:q48 t c (∀ (x20:Nat),q4d t x20 (∀ (i115:Nat),i115 < (Twn.rooms (altT t c)).length -> [iv ((Twn.rooms (onlyT t c)).getD i115 0)] = [iv ((Twn.rooms (altT t c)).getD i115 0)])))
 (o71:q48 t c (∀ (x20:Nat),q4d t x20 (Twn.minute (onlyT t c)=Twn.minute (altT t c))))
 (o72:q48 t c (∀ (x20:Nat),q4d t x20 (fitsT (altT t c))))
 (o73:q48 t c (∀ (x20:Nat),q4e t c x20 (0=(↑0:Int))))
 (o74:q48 t c (∀ (x20:Nat),q4e t c x20 (0<=(Twn.places t).length)))
 (o75:q48 t c (∀ (x20:Nat),q4e t c x20 (∀ (x120:Nat),q4f t c x120 (0<=(x120:Int)))))
 (o76:q48 t c (∀ (x20:Nat),q4e t c x20 (∀ (x120:Nat),q4f t c x120 ((x120:Int) < (↑((Hs.things (Twn.house (altT t c))).length):Int)))))
 (o77:q48 t c (∀ (x20:Nat),q4e t c x20 (∀ (x120:Nat),q4f t c x120 ((!decide (Thg.prints (thg (Twn.house (altT t c)) x120)=0))=true->0<=(x120:Int)))))
 (o78:q48 t c (∀ (x20:Nat),q4e t c x20 (∀ (x120:Nat),q4f t c x120 ((!decide (Thg.prints (thg (Twn.house (altT t c)) x120)=0))=true->(x120:Int) < (↑((Hs.things (Twn.house (altT t c))).length):Int)))))
 (o79:q48 t c (∀ (x20:Nat),q4e t c x20 (∀ (x120:Nat),q4f t c x120 (decide (Thg.prints (thg (Twn.house (altT t c)) x120)=0)=false->(!decide (Thg.prints (thg (Twn.house (altT t c)) x120)=0))=true))))
 (o80:q48 t c (∀ (x20:Nat),q4e t c x20 (∀ (x120:Nat),q4g t c x120 (inI ((x120:Int) + 1)))))
 (o81:q48 t c (∀ (x20:Nat),q4e t c x20 (∀ (x120:Nat),q4g t c x120 ((x120:Int) + 1=(↑(x120 + 1):Int)))))
 (o82:q48 t c (∀ (x20:Nat),q4e t c x20 (∀ (x120:Nat),q4g t c x120 (x120 + 1<=(Twn.places t).length))))
 (o83:q48 t c (∀ (x20:Nat),q4e t c x20 (∀ (x120:Nat),q4g t c x120 ((Twn.places t).length - (x120 + 1) < (Twn.places t).length - x120))))
 (o84:q48 t c (∀ (x20:Nat),q4e t c x20 (∀ (x120:Nat),q4h t c x120 (okTwn (altT t c)=true))))
 (o85:q48 t c (∀ (x20:Nat),q4e t c x20 (∀ (x120:Nat),q4h t c x120 (x120 < (Hs.things (Twn.house (altT t c))).length))))
 (o86:q48 t c (∀ (x20:Nat),q4e t c x20 (∀ (x120:Nat),q4h t c x120 ((!freshT (altT t c) x120)=false))))
 (o87:q48 t c (∀ (x20:Nat),q4e t c x20 (∀ (x120:Nat),q4h t c x120 (0=(↑0:Int)))))
 (o88:q48 t c (∀ (x20:Nat),q4e t c x20 (∀ (x120:Nat),q4h t c x120 (0<=x120))))
 (o89:q48 t c (∀ (x20:Nat),q4e t c x20 (∀ (x120:Nat),q4h t c x120 (∀ (x139:Nat),q4j x120 x139 (0<=(x139:Int))))))
 (o90:q48 t c (∀ (x20:Nat),q4e t c x20 (∀ (x120:Nat),q4h t c x120 (∀ (x139:Nat),q4j x120 x139 ((x139:Int) < (↑((Hs.things (Twn.house (altT t c))).length):Int))))))
 (o91:q48 t c (∀ (x20:Nat),q4e t c x20 (∀ (x120:Nat),q4h t c x120 (∀ (x139:Nat),q4j x120 x139 ((!decide (Thg.prints (thg (Twn.house (altT t c)) x139)=0))=true->0<=(x139:Int))))))
 (o92:q48 t c (∀ (x20:Nat),q4e t c x20 (∀ (x120:Nat),q4h t c x120 (∀ (x139:Nat),q4j x120 x139 ((!decide (Thg.prints (thg (Twn.house (altT t c)) x139)=0))=true->(x139:Int) < (↑((Hs.things (Twn.house (altT t c))).length):Int))))))
 (o93:q48 t c (∀ (x20:Nat),q4e t c x20 (∀ (x120:Nat),q4h t c x120 (∀ (x139:Nat),q4j x120 x139 (decide (Thg.prints (thg (Twn.house (altT t c)) x139)=0)=false->(!decide (Thg.prints (thg (Twn.house (altT t c)) x139)=0))=true)))))
 (o94:q48 t c (∀ (x20:Nat),q4e t c x20 (∀ (x120:Nat),q4h t c x120 (∀ (x139:Nat),q4k t c x120 x139 (okH (Twn.house (altT t c))=true)))))
 (o95:q48 t c (∀ (x20:Nat),q4e t c x20 (∀ (x120:Nat),q4h t c x120 (∀ (x139:Nat),q4k t c x120 x139 (x139 < (Hs.things (Twn.house (altT t c))).length)))))
 (o96:q48 t c (∀ (x20:Nat),q4e t c x20 (∀ (x120:Nat),q4h t c x120 (∀ (x139:Nat),q4k t c x120 x139 (okH (Twn.house (altT t c))=true)))))
 (o97:q48 t c (∀ (x20:Nat),q4e t c x20 (∀ (x120:Nat),q4h t c x120 (∀ (x139:Nat),q4k t c x120 x139 (x120 < (Hs.things (Twn.house (altT t c))).length)))))
 (o98:q48 t c (∀ (x20:Nat),q4e t c x20 (∀ (x120:Nat),q4h t c x120 (∀ (x139:Nat),q4j x120 x139 ((bif decide (Thg.prints (thg (Twn.house (altT t c)) x139)=0) then true else !thereT (altT t c) x139)=false->(!bif decide (Thg.prints (thg (Twn.house (altT t c)) x139)=0) then true else !thereT (altT t c) x139)=true)))))
 (o99:q48 t c (∀ (x20:Nat),q4e t c x20 (∀ (x120:Nat),q4h t c x120 (∀ (x139:Nat),q4l t c x120 x139 (0<=(x139:Int))))))
 (o100:q48 t c (∀ (x20:Nat),q4e t c x20 (∀ (x120:Nat),q4h t c x120 (∀ (x139:Nat),q4l t c x120 x139 ((x139:Int) < (↑((Twn.places (altT t c)).length):Int))))))
 (o101:q48 t c (∀ (x20:Nat),q4e t c x20 (∀ (x120:Nat),q4h t c x120 (∀ (x139:Nat),q4l t c x120 x139 (0<=(x120:Int))))))
 (o102:q48 t c (∀ (x20:Nat),q4e t c x20 (∀ (x120:Nat),q4h t c x120 (∀ (x139:Nat),q4l t c x120 x139 ((x120:Int) < (↑((Twn.places (altT t c)).length):Int))))))
 (o103:q48 t c (∀ (x20:Nat),q4e t c x20 (∀ (x120:Nat),q4h t c x120 (∀ (x139:Nat),q4j x120 x139 ((bif bif decide (Thg.prints (thg (Twn.house (altT t c)) x139)=0) then true else !thereT (altT t c) x139 then true else !decide ((↑(pgN (Twn.house (altT t c)) x139):Int)=(↑(pgN (Twn.house (altT t c)) x120):Int)))=false->(!bif bif decide (Thg.prints (thg (Twn.house (altT t c)) x139)=0) then true else !thereT (altT t c) x139 then true else !decide ((↑(pgN (Twn.house (altT t c)) x139):Int)=(↑(pgN (Twn.house (altT t c)) x120):Int)))=true)))))
 (o104:q48 t c (∀ (x20:Nat),q4e t c x20 (∀ (x120:Nat),q4h t c x120 (∀ (x139:Nat),q4m t c x120 x139 (inI ((x139:Int) + 1))))))
 (o105:q48 t c (∀ (x20:Nat),q4e t c x20 (∀ (x120:Nat),q4h t c x120 (∀ (x139:Nat),q4m t c x120 x139 ((x139:Int) + 1=(↑(x139 + 1):Int))))))
 (o106:q48 t c (∀ (x20:Nat),q4e t c x20 (∀ (x120:Nat),q4h t c x120 (∀ (x139:Nat),q4m t c x120 x139 (x139 + 1<=x120)))))
 (o107:q48 t c (∀ (x20:Nat),q4e t c x20 (∀ (x120:Nat),q4h t c x120 (∀ (x139:Nat),q4m t c x120 x139 (x120 - (x139 + 1) < x120 - x139)))))
 (o108:q48 t c (∀ (x20:Nat),q4e t c x20 (∀ (x120:Nat),q4h t c x120 (∀ (x139:Nat),q4n t c x120 x139 (0=(↑0:Int))))))
 (o109:q48 t c (∀ (x20:Nat),q4e t c x20 (∀ (x120:Nat),q4h t c x120 (∀ (x139:Nat),q4n t c x120 x139 (0<=(Twn.rooms t).length)))))
 (o110:q48 t c (∀ (x20:Nat),q4e t c x20 (∀ (x120:Nat),q4h t c x120 (∀ (x139:Nat),q4n t c x120 x139 (∀ (x192:Nat),q4p t c x192 (okTwn (altT t c)=true))))))
 (o111:q48 t c (∀ (x20:Nat),q4e t c x20 (∀ (x120:Nat),q4h t c x120 (∀ (x139:Nat),q4n t c x120 x139 (∀ (x192:Nat),q4p t c x192 (0<=(x192:Int)))))))
 (o112:q48 t c (∀ (x20:Nat),q4e t c x20 (∀ (x120:Nat),q4h t c x120 (∀ (x139:Nat),q4n t c x120 x139 (∀ (x192:Nat),q4p t c x192 ((x192:Int) < (↑((Twn.rooms (altT t c)).length):Int)))))))
 (o113:q48 t c (∀ (x20:Nat),q4e t c x20 (∀ (x120:Nat),q4h t c x120 (∀ (x139:Nat),q4n t c x120 x139 (∀ (x192:Nat),q4p t c x192 (okTwn (altT t c)=true))))))
 (o114:q48 t c (∀ (x20:Nat),q4e t c x20 (∀ (x120:Nat),q4h t c x120 (∀ (x139:Nat),q4n t c x120 x139 (∀ (x192:Nat),q4p t c x192 (0<=(x192:Int)))))))
 (o115:q48 t c (∀ (x20:Nat),q4e t c x20 (∀ (x120:Nat),q4h t c x120 (∀ (x139:Nat),q4n t c x120 x139 (∀ (x192:Nat),q4p t c x192 ((x192:Int) < (↑((Twn.rooms (altT t c)).length):Int)))))))
 (o116:q48 t c (∀ (x20:Nat),q4e t c x20 (∀ (x120:Nat),q4h t c x120 (∀ (x139:Nat),q4n t c x120 x139 (∀ (x192:Nat),q4p t c x192 (okH (Twn.house (altT t c))=true))))))
 (o117:q48 t c (∀ (x20:Nat),q4e t c x20 (∀ (x120:Nat),q4h t c x120 (∀ (x139:Nat),q4n t c x120 x139 (∀ (x192:Nat),q4p t c x192 (x120 < (Hs.things (Twn.house (altT t c))).length))))))
 (o118:q48 t c (∀ (x20:Nat),q4e t c x20 (∀ (x120:Nat),q4h t c x120 (∀ (x139:Nat),q4n t c x120 x139 (∀ (x192:Nat),q4p t c x192 ((!false)=true->(lostL (altT t c) (x192:Int)).length<=big))))))
 (o119:q48 t c (∀ (x20:Nat),q4e t c x20 (∀ (x120:Nat),q4h t c x120 (∀ (x139:Nat),q4n t c x120 x139 (∀ (x192:Nat),q4p t c x192 ((!isIn (lostL (altT t c) (x192:Int)) (↑(pgN (Twn.house (altT t c)) x120):Int))=true->(staleL (altT t c) (x192:Int)).length<=big))))))
 (o120:q48 t c (∀ (x20:Nat),q4e t c x20 (∀ (x120:Nat),q4h t c x120 (∀ (x139:Nat),q4n t c x120 x139 (∀ (x192:Nat),q4p t c x192 (isIn (lostL (altT t c) (x192:Int)) (↑(pgN (Twn.house (altT t c)) x120):Int)=false->(!isIn (lostL (altT t c) (x192:Int)) (↑(pgN (Twn.house (altT t c)) x120):Int))=true))))))
 (o121:q48 t c (∀ (x20:Nat),q4e t c x20 (∀ (x120:Nat),q4h t c x120 (∀ (x139:Nat),q4n t c x120 x139 (∀ (x192:Nat),q4p t c x192 ((bif isIn (lostL (altT t c) (x192:Int)) (↑(pgN (Twn.house (altT t c)) x120):Int) then true else isIn (staleL (altT t c) (x192:Int)) (↑(pgN (Twn.house (altT t c)) x120):Int))=false))))))
 (o122:q48 t c (∀ (x20:Nat),q4e t c x20 (∀ (x120:Nat),q4h t c x120 (∀ (x139:Nat),q4n t c x120 x139 (∀ (x192:Nat),q4p t c x192 (inI ((x192:Int) + 1)))))))
 (o123:q48 t c (∀ (x20:Nat),q4e t c x20 (∀ (x120:Nat),q4h t c x120 (∀ (x139:Nat),q4n t c x120 x139 (∀ (x192:Nat),q4p t c x192 ((x192:Int) + 1=(↑(x192 + 1):Int)))))))
 (o124:q48 t c (∀ (x20:Nat),q4e t c x20 (∀ (x120:Nat),q4h t c x120 (∀ (x139:Nat),q4n t c x120 x139 (∀ (x192:Nat),q4p t c x192 (x192 + 1<=(Twn.rooms t).length))))))
 (o125:q48 t c (∀ (x20:Nat),q4e t c x20 (∀ (x120:Nat),q4h t c x120 (∀ (x139:Nat),q4n t c x120 x139 (∀ (x192:Nat),q4p t c x192 ((Twn.rooms t).length - (x192 + 1) < (Twn.rooms t).length - x192))))))
 (o126:q48 t c (∀ (x20:Nat),q4e t c x20 (∀ (x120:Nat),q4h t c x120 (∀ (x139:Nat),q4n t c x120 x139 (∀ (x192:Nat),q4q t c x192 (inI ((x139:Int) + 1)))))))
 (o127:q48 t c (∀ (x20:Nat),q4e t c x20 (∀ (x120:Nat),q4h t c x120 (∀ (x139:Nat),q4n t c x120 x139 (∀ (x192:Nat),q4q t c x192 ((x139:Int) + 1=(↑(x139 + 1):Int)))))))
 (o128:q48 t c (∀ (x20:Nat),q4e t c x20 (∀ (x120:Nat),q4h t c x120 (∀ (x139:Nat),q4n t c x120 x139 (∀ (x192:Nat),q4q t c x192 (x139 + 1<=x120))))))
 (o129:q48 t c (∀ (x20:Nat),q4e t c x20 (∀ (x120:Nat),q4h t c x120 (∀ (x139:Nat),q4n t c x120 x139 (∀ (x192:Nat),q4q t c x192 (x120 - (x139 + 1) < x120 - x139))))))
 (o130:q48 t c (∀ (x20:Nat),q4e t c x20 (∀ (x120:Nat),q4h t c x120 (∀ (x139:Nat),q4r x120 x139 (inI ((x120:Int) + 1))))))
 (o131:q48 t c (∀ (x20:Nat),q4e t c x20 (∀ (x120:Nat),q4h t c x120 (∀ (x139:Nat),q4r x120 x139 ((x120:Int) + 1=(↑(x120 + 1):Int))))))
 (o132:q48 t c (∀ (x20:Nat),q4e t c x20 (∀ (x120:Nat),q4h t c x120 (∀ (x139:Nat),q4r x120 x139 (x120 + 1<=(Twn.places t).length)))))
 (o133:q48 t c (∀ (x20:Nat),q4e t c x20 (∀ (x120:Nat),q4h t c x120 (∀ (x139:Nat),q4r x120 x139 ((Twn.places t).length - (x120 + 1) < (Twn.places t).length - x120))))) :
  Triple Try.prog 3 (s3 t c):=by
 refine triple_of Try.func3 rfl Try.call3 T0_ok _ rfl rfl rfl rfl (Nat.le_of_ble_eq_true (by kernel_rfl)) (fun _ _ _ _ h=>h) ?_
 intro hpre C hC _ hE
 obtain ⟨P,w0,E0,av,hA,ro,df⟩:=C
 obtain ⟨rfl,rfl,rfl⟩:=hC
 refine swp_seq ?_
 refine zR [1,2] [0] (Ak 2 tv) ?_
 refine swp_seq ?_
 refine swp_seq ?_
 refine zC ([(1,CallSpec.eq (s5 t) [true]),(4,CallSpec.eq (s6 t) [true]),(9,CallSpec.eq (s7 c) [true])]) [1,2,31] [0] (Ak 1 (An (An (An (zr (AV.agg (cTwn t))) tv) (An (t5 (t)) (An hpre (Ak 1 (fun (i0:Env)=>tv))))) (Ak 1 (An (fun (y1:(!far10 t)=true)=>(An (Ak 1 tv) tv)) (An (fun (y2:(!far10 t)=true)=>(An (Ak 1 (An (fun (y3:(!far10 t)=true)=>y2) tv)) (An (An (zr (AV.agg (cTwn t))) tv) (An (t6 (t)) (An hpre (Ak 1 (fun (i4:Env)=>tv))))))) (An (fun (y5:(!far10 t)=true)=>(An (An (fun (y6:(!far10 t)=true)=>y5) (Ak 1 tv)) tv)) (An (An (fun (y7:far10 t=true)=>tv) (fun (y8:far10 t=false)=>(o0 hpre y8))) (Ak 1 (An (fun (y9:(!bif far10 t then true else !decide (check10 t=0))=true)=>(An (Ak 1 tv) tv)) (An (fun (y10:(!bif far10 t then true else !decide (check10 t=0))=true)=>(An (Ak 1 (An (fun (y11:(!bif far10 t then true else !decide (check10 t=0))=true)=>y10) tv)) (An (An (zr (iv c)) tv) (An (t7 (c)) (Ak 2 (fun (i12:Env)=>tv)))))) (An (fun (y13:(!bif far10 t then true else !decide (check10 t=0))=true)=>(An (An (fun (y14:(!bif far10 t then true else !decide (check10 t=0))=true)=>y13) tv) tv)) (An (An (fun (y15:(bif far10 t then true else !decide (check10 t=0))=true)=>tv) (fun (y16:(bif far10 t then true else !decide (check10 t=0))=false)=>(o1 hpre y16))) tv)))))))))))) ?_
 refine zI (bif bif far10 t then true else !decide (check10 t=0) then true else !within c 0 2) (fun y17 => ?_) (fun y17 => ?_)
 ·refine swp_seq ?_
  refine zC ([(0,CallSpec.eq s8 [])]) [4] [] (An (Ak 1 (An (t8) (Ak 2 (fun (i18:Env)=>tv)))) (Ak 1 tv)) ?_
  refine swp_ret ?_
  exact zT [] (An (Ak 1 tv) (An (An (zr (bv true)) (zr nilN)) (An (zr true) (An (zr true) (zr true)))))
 ·refine swp_skip ?_
  refine swp_seq ?_
  refine zC ([(1,CallSpec.eq (s9 t) [true])]) [1,2,5] [0,128] (Ak 1 (An (An (An (zr (AV.agg (cTwn t))) tv) (An (t9 (t)) (An (An (An (o2 hpre y17) (o3 hpre y17)) (An (o4 hpre y17) (An (o5 hpre y17) (o6 hpre y17)))) (Ak 1 (fun (i19:Env)=>tv))))) (Ak 2 tv))) ?_
  refine swp_seq ?_
  refine zR [1,2,5] [0,128] (Ak 3 tv) ?_
  refine swp_seq ?_
  refine swp_seq ?_
  refine zR [1,2,5,6] [0,128] (Ak 1 tv) ?_
  refine swp_block ?_
  refine zL (Hint.ann (h3a t c) [(1,iv c),(2,AV.ptr 0 [])] [(0,OB.cells 28 (cTwn t))] 10176) (zE hE [] [(0,.same 0),(5000,.same 128),(5001,.nil)] [1] [0] (An (An (An (zr (iv c)) (zr true)) (An (An (zr (some (Src.same 0))) (zr nilP)) (An (An (ci (o7 hpre y17)) (zr nilN)) (An (An (zr (some (Src.same 128))) (zr nilP)) tv)))) (An (An (An (zr (OB.cells 28 (cTwn t))) (zr true)) (An (An (zr 28) (An (An (An (zr 4) (An (zr (Hs.things (Twn.house t)).length) (fun (i21:Nat)=>(fun (y22:i21 < (Hs.things (Twn.house t)).length)=>(zr (cThg (thg (Twn.house t) i21))))))) (An (zr (some Src.nil)) (An (An (zr 1) (An (zr (Twn.places t).length) (fun (i23:Nat)=>(fun (y24:i23 < (Twn.places t).length)=>(zr ([iv ((Twn.places t).getD i23 0)])))))) (An (An (zr 1) (An (zr (Twn.carry t).length) (fun (i25:Nat)=>(fun (y26:i25 < (Twn.carry t).length)=>(zr ([iv ((Twn.carry t).getD i25 0)])))))) (An (An (zr 1) (An (zr (Twn.rooms t).length) (fun (i27:Nat)=>(fun (y28:i27 < (Twn.rooms t).length)=>(zr ([iv ((Twn.rooms t).getD i27 0)])))))) (An (An (zr (iv (Twn.minute t))) (zr nilN)) tv)))))) (zr true))) (An (o8 hpre y17) tv))) (An (zr true) (zr true))))) (o9 hpre y17) (fun (x20:Nat) hx20 => ?_)
  refine swp_seq ?_
  refine swp_seq ?_
  refine zR [1,2,6,5,42] [0,5000,5001] (Ak 6 tv) ?_
  refine zI (decide ((x20:Int) < (↑((Hs.marks (Twn.house t)).length):Int))) (fun y29 => ?_) (fun y29 => ?_)
  ·refine swp_skip ?_
   refine swp_seq ?_
   refine swp_block ?_
   refine swp_seq ?_
   refine zR [1,2,6,5,7] [0,5000,10272,5001] (Ak 4 (An (An (o10 hpre y17 x20 hx20 y29) (o11 hpre y17 x20 hx20 y29)) (Ak 3 tv))) ?_
   refine swp_seq ?_
   refine zR [1,2,6,5,7,61] [0,5000,10272,5001] (Ak 5 (An (fun (y30:decide (Mrk.ch ((Hs.marks (Twn.house t)).getD x20 default)=c)=true)=>(An (Ak 1 tv) tv)) (An (fun (y31:decide (Mrk.ch ((Hs.marks (Twn.house t)).getD x20 default)=c)=true)=>(An (An (fun (y32:decide (Mrk.ch ((Hs.marks (Twn.house t)).getD x20 default)=c)=true)=>y31) tv) tv)) (An (fun (y33:decide (Mrk.ch ((Hs.marks (Twn.house t)).getD x20 default)=c)=true)=>(An (Ak 1 tv) tv)) (An (fun (y34:decide (Mrk.ch ((Hs.marks (Twn.house t)).getD x20 default)=c)=true)=>(An (An (fun (y35:decide (Mrk.ch ((Hs.marks (Twn.house t)).getD x20 default)=c)=true)=>y34) tv) tv)) (An (fun (y36:decide (Mrk.ch ((Hs.marks (Twn.house t)).getD x20 default)=c)=true)=>(An (An (fun (y37:decide (Mrk.ch ((Hs.marks (Twn.house t)).getD x20 default)=c)=true)=>y36) (An (fun (y38:decide (Mrk.ch ((Hs.marks (Twn.house t)).getD x20 default)=c)=true)=>y36) tv)) tv)) (An (An (fun (y39:decide (Mrk.ch ((Hs.marks (Twn.house t)).getD x20 default)=c)=true)=>y39) (fun (y40:decide (Mrk.ch ((Hs.marks (Twn.house t)).getD x20 default)=c)=false)=>tv)) tv))))))) ?_
   refine zI (bif decide (Mrk.ch ((Hs.marks (Twn.house t)).getD x20 default)=c) then decide (Mrk.at_ ((Hs.marks (Twn.house t)).getD x20 default)<=Twn.minute t) else false) (fun y41 => ?_) (fun y41 => ?_)
   ·refine zR [1,2,6,5] [0,5000,10416] (Ak 5 (An (o12 hpre y17 x20 hx20 y29 y41) (Ak 3 tv))) ?_
    refine zR [1,2,6,5] [0,5000,10416] (Ak 1 (An (o13 hpre y17 x20 hx20 y29 y41) (Ak 1 tv))) ?_
    exact zn (zE hE [] [(0,.same 0),(5000,.same 5000),(5001,.same 10416)] [1] [0] (An (An (An (zr (iv c)) (zr true)) (An (An (zr (some (Src.same 0))) (zr nilP)) (An (An (ci (o14 hpre y17 x20 hx20 y29 y41)) (zr nilN)) (An (An (zr (some (Src.same 5000))) (zr nilP)) tv)))) (An (An (An (zr (OB.cells 28 (cTwn t))) (zr true)) (An (An (zr 28) (An (An (An (zr 4) (An (zr (Hs.things (Twn.house t)).length) (fun (i42:Nat)=>(fun (y43:i42 < (Hs.things (Twn.house t)).length)=>(zr (cThg (thg (Twn.house t) i42))))))) (An (zr (some (Src.same 10416))) (An (An (zr 1) (An (zr (Twn.places t).length) (fun (i44:Nat)=>(fun (y45:i44 < (Twn.places t).length)=>(zr ([iv ((Twn.places t).getD i44 0)])))))) (An (An (zr 1) (An (zr (Twn.carry t).length) (fun (i46:Nat)=>(fun (y47:i46 < (Twn.carry t).length)=>(zr ([iv ((Twn.carry t).getD i46 0)])))))) (An (An (zr 1) (An (zr (Twn.rooms t).length) (fun (i48:Nat)=>(fun (y49:i48 < (Twn.rooms t).length)=>(zr ([iv ((Twn.rooms t).getD i48 0)])))))) (An (An (zr (iv (Twn.minute t))) (zr nilN)) tv)))))) (zr true))) (An (An (zr 36) (An (zr 3) (An (o15 hpre y17 x20 hx20 y29 y41) (fun (i50:Nat)=>(fun (y51:i50 < (onlyM t c x20).length + 1)=>(o16 hpre y17 x20 hx20 y29 y41 i50 y51)))))) tv))) (An (zr true) (zr true))))) (o17 hpre y17 x20 hx20 y29 y41) (o18 hpre y17 x20 hx20 y29 y41)
   ·refine swp_skip ?_
    refine zR [1,2,6,5] [0,5000,5001] (Ak 1 (An (o19 hpre y17 x20 hx20 y29 y41) (Ak 1 tv))) ?_
    exact zn (zE hE [] [(0,.same 0),(5000,.same 5000),(5001,.same 5001)] [1] [0] (An (An (An (zr (iv c)) (zr true)) (An (An (zr (some (Src.same 0))) (zr nilP)) (An (An (ci (o20 hpre y17 x20 hx20 y29 y41)) (zr nilN)) (An (An (zr (some (Src.same 5000))) (zr nilP)) tv)))) (An (An (An (zr (OB.cells 28 (cTwn t))) (zr true)) (An (An (zr 28) (An (An (An (zr 4) (An (zr (Hs.things (Twn.house t)).length) (fun (i52:Nat)=>(fun (y53:i52 < (Hs.things (Twn.house t)).length)=>(zr (cThg (thg (Twn.house t) i52))))))) (An (zr (some (Src.same 5001))) (An (An (zr 1) (An (zr (Twn.places t).length) (fun (i54:Nat)=>(fun (y55:i54 < (Twn.places t).length)=>(zr ([iv ((Twn.places t).getD i54 0)])))))) (An (An (zr 1) (An (zr (Twn.carry t).length) (fun (i56:Nat)=>(fun (y57:i56 < (Twn.carry t).length)=>(zr ([iv ((Twn.carry t).getD i56 0)])))))) (An (An (zr 1) (An (zr (Twn.rooms t).length) (fun (i58:Nat)=>(fun (y59:i58 < (Twn.rooms t).length)=>(zr ([iv ((Twn.rooms t).getD i58 0)])))))) (An (An (zr (iv (Twn.minute t))) (zr nilN)) tv)))))) (zr true))) (An (An (zr 36) (An (zr 3) (An (o21 hpre y17 x20 hx20 y29 y41) (fun (i60:Nat)=>(fun (y61:i60 < (onlyM t c x20).length)=>(o22 hpre y17 x20 hx20 y29 y41 i60 y61)))))) tv))) (An (zr true) (zr true))))) (o23 hpre y17 x20 hx20 y29 y41) (o24 hpre y17 x20 hx20 y29 y41)
  ·refine swp_exit ?_
   refine swp_seq ?_
   refine swp_ent (zE (st2:=ASt.mk [(1,iv c),(2,AV.ptr 0 []),(6,iv (x20:Int)),(5,AV.ptr 5000 []),(42,bv (decide ((x20:Int) < (↑((Hs.marks (Twn.house t)).length):Int))))] [(5000,OB.cells 28 (cTwn (onlyT t c))),(0,OB.cells 28 (cTwn t))] 10224) hE [5001] [(0,.same 0),(5000,.same 5000)] [1,6,42] [0] (An (An (An (zr (iv c)) (zr true)) (An (An (zr (some (Src.same 0))) (zr nilP)) (An (An (zr (iv (x20:Int))) (zr true)) (An (An (zr (some (Src.same 5000))) (zr nilP)) (An (An (zr (bv (decide ((x20:Int) < (↑((Hs.marks (Twn.house t)).length):Int))))) (zr true)) tv))))) (An (An (An (zr 28) (An (An (An (zr 4) (An (o25 hpre y17 x20 hx20 y29) (fun (i62:Nat)=>(fun (y63:i62 < (Hs.things (Twn.house (onlyT t c))).length)=>(o26 hpre y17 x20 hx20 y29 i62 y63))))) (An (An (zr 3) (An (o27 hpre y17 x20 hx20 y29) (fun (i64:Nat)=>(fun (y65:i64 < (Hs.marks (Twn.house (onlyT t c))).length)=>(o28 hpre y17 x20 hx20 y29 i64 y65))))) (An (An (zr 1) (An (o29 hpre y17 x20 hx20 y29) (fun (i66:Nat)=>(fun (y67:i66 < (Twn.places (onlyT t c)).length)=>(o30 hpre y17 x20 hx20 y29 i66 y67))))) (An (An (zr 1) (An (o31 hpre y17 x20 hx20 y29) (fun (i68:Nat)=>(fun (y69:i68 < (Twn.carry (onlyT t c)).length)=>(o32 hpre y17 x20 hx20 y29 i68 y69))))) (An (An (zr 1) (An (o33 hpre y17 x20 hx20 y29) (fun (i70:Nat)=>(fun (y71:i70 < (Twn.rooms (onlyT t c)).length)=>(o34 hpre y17 x20 hx20 y29 i70 y71))))) (An (An (ci (o35 hpre y17 x20 hx20 y29)) (zr nilN)) tv)))))) (zr true))) (An (An (zr (OB.cells 28 (cTwn t))) (zr true)) tv)) (An (zr true) (zr true))))) ?_
   refine zC ([(2,CallSpec.eq (c3a t c) [false]),(6,CallSpec.eq (c3b t c) [true,true,true])]) [1,2,5,8,9] [0,5000] (Ak 2 (An (An (An (An (An (zr 4) (An (o36 hpre y17 x20 hx20 y29) (fun (i72:Nat)=>(fun (y73:i72 < (Hs.things (onlyH t c)).length)=>(o37 hpre y17 x20 hx20 y29 i72 y73))))) (An (An (zr 3) (An (o38 hpre y17 x20 hx20 y29) (fun (i74:Nat)=>(fun (y75:i74 < (Hs.marks (onlyH t c)).length)=>(o39 hpre y17 x20 hx20 y29 i74 y75))))) tv)) tv) (An (t11 (onlyH t c)) (An (An (o40 hpre y17 x20 hx20 y29) (o41 hpre y17 x20 hx20 y29)) (Ak 1 (fun (i76:Env)=>tv))))) (Ak 3 (An (An (An (zr (AV.agg (cHs (onlyH t c)))) (An (zr (iv c)) (An (zr (iv (Twn.minute t))) tv))) (An (t10 (onlyH t c) (c) (Twn.minute t)) (An (An (o42 hpre y17 x20 hx20 y29) (An (o43 hpre y17 x20 hx20 y29) (o44 hpre y17 x20 hx20 y29))) (Ak 1 (fun (i77:Env)=>tv))))) (Ak 5 tv))))) ?_
   refine swp_seq ?_
   refine swp_seq ?_
   refine zC ([(9,CallSpec.eq (c3r t c) [false,true,true])]) [1,2,5,8,91] [0,5000] (Ak 3 (An (fun (y78:(!false)=true)=>(An (Ak 1 tv) tv)) (An (fun (y79:(!false)=true)=>(An (Ak 1 tv) tv)) (An (fun (y80:(!false)=true)=>(An (An (fun (y81:(!false)=true)=>(zr true)) tv) tv)) (An (fun (y82:(!false)=true)=>(An (An (fun (y83:(!false)=true)=>(zr true)) tv) tv)) (An (fun (y84:(!false)=true)=>(An (An (fun (y85:(!false)=true)=>(zr true)) tv) tv)) (An (fun (y86:(!false)=true)=>(An (An (fun (y87:(!false)=true)=>(zr true)) (Ak 1 tv)) (o45 hpre y17 x20 hx20 y29 y86))) (An (fun (y88:(!false)=true)=>(An (Ak 1 (An (fun (y89:(!false)=true)=>(zr true)) (Ak 1 (An (fun (y90:(!false)=true)=>(zr true)) tv)))) (An (An (An (zr 1) (An (o46 hpre y17 x20 hx20 y29 y88) (fun (i91:Nat)=>(fun (y92:i91 < (remT t c).length)=>(o47 hpre y17 x20 hx20 y29 y88 i91 y92))))) (An (zr (iv 0)) (An (zr (iv ((↑((Hs.things (Twn.house t)).length):Int) - 1))) tv))) (An (t12 (remT t c) (0) ((↑((Hs.things (Twn.house t)).length):Int) - 1)) (An (o48 hpre y17 x20 hx20 y29 y88) (Ak 1 (fun (i93:Env)=>tv))))))) (An (fun (y94:(!false)=true)=>(An (An (fun (y95:(!false)=true)=>(zr true)) tv) tv)) (An (An (fun (y96:false=true)=>tv) (fun (y97:false=false)=>(zr true))) tv)))))))))) ?_
   refine zI (!rising (remT t c) 0 ((↑((Hs.things (Twn.house t)).length):Int) - 1)) (fun h=>by cases (h.symm.trans (o49 hpre y17 x20 hx20 y29))) (fun _ => ?_)
   refine swp_skip ?_
   refine swp_seq ?_
   refine zC ([(6,CallSpec.eq (c3c t c) [false,true,true,false])]) [5] [5000] (Ak 6 (An (An (An (An (An (zr 4) (An (o50 hpre y17 x20 hx20 y29) (fun (i98:Nat)=>(fun (y99:i98 < (Hs.things (onlyH t c)).length)=>(o51 hpre y17 x20 hx20 y29 i98 y99))))) (An (An (zr 3) (An (o52 hpre y17 x20 hx20 y29) (fun (i100:Nat)=>(fun (y101:i100 < (Hs.marks (onlyH t c)).length)=>(o53 hpre y17 x20 hx20 y29 i100 y101))))) tv)) (An (zr (iv c)) (An (zr (iv (Twn.minute t))) (An (An (zr 1) (An (o54 hpre y17 x20 hx20 y29) (fun (i102:Nat)=>(fun (y103:i102 < (remT t c).length)=>(o55 hpre y17 x20 hx20 y29 i102 y103))))) tv)))) (An (t13 (onlyH t c) (c) (Twn.minute t) (remT t c)) (An (An (An (o56 hpre y17 x20 hx20 y29) (An (o57 hpre y17 x20 hx20 y29) (o58 hpre y17 x20 hx20 y29))) (fun (i104:Nat)=>(fun (y105:i104 < (remT t c).length)=>(An (o59 hpre y17 x20 hx20 y29 i104 y105) (o60 hpre y17 x20 hx20 y29 i104 y105))))) (Ak 1 (fun (i106:Env)=>tv))))) (Ak 2 tv))) ?_
   refine swp_seq ?_
   refine swp_seq ?_
   refine swp_ent (zE (st2:=ASt.mk [(5,AV.ptr 5000 [])] [(5000,OB.cells 28 (cTwn (altT t c)))] 10488) hE [] [(5000,.same 5000)] [] [] (An (An (An (zr (some (Src.same 5000))) (zr nilP)) tv) (An (An (An (zr 28) (An (An (An (zr 4) (An (o61 hpre y17 x20 hx20 y29) (fun (i107:Nat)=>(fun (y108:i107 < (Hs.things (Twn.house (altT t c))).length)=>(o62 hpre y17 x20 hx20 y29 i107 y108))))) (An (An (zr 3) (An (o63 hpre y17 x20 hx20 y29) (fun (i109:Nat)=>(fun (y110:i109 < (Hs.marks (Twn.house (altT t c))).length)=>(o64 hpre y17 x20 hx20 y29 i109 y110))))) (An (An (zr 1) (An (o65 hpre y17 x20 hx20 y29) (fun (i111:Nat)=>(fun (y112:i111 < (Twn.places (altT t c)).length)=>(o66 hpre y17 x20 hx20 y29 i111 y112))))) (An (An (zr 1) (An (o67 hpre y17 x20 hx20 y29) (fun (i113:Nat)=>(fun (y114:i113 < (Twn.carry (altT t c)).length)=>(o68 hpre y17 x20 hx20 y29 i113 y114))))) (An (An (zr 1) (An (o69 hpre y17 x20 hx20 y29) (fun (i115:Nat)=>(fun (y116:i115 < (Twn.rooms (altT t c)).length)=>(o70 hpre y17 x20 hx20 y29 i115 y116))))) (An (An (ci (o71 hpre y17 x20 hx20 y29)) (zr nilN)) tv)))))) (zr true))) tv) (An (zr true) (zr true))))) ?_
   refine zC ([(1,CallSpec.eq (s6 (altT t c)) [true])]) [5,102] [5000] (Ak 1 (An (An (An (zr (AV.agg (cTwn (altT t c)))) tv) (An (t6 (altT t c)) (An (o72 hpre y17 x20 hx20 y29) (Ak 1 (fun (i117:Env)=>tv))))) (Ak 1 tv))) ?_
   refine zI (!decide (check10 (altT t c)=0)) (fun y118 => ?_) (fun y118 => ?_)
   ·refine swp_seq ?_
    refine zC ([(0,CallSpec.eq s8 [])]) [4] [] (An (Ak 1 (An (t8) (Ak 2 (fun (i119:Env)=>tv)))) (Ak 1 tv)) ?_
    refine swp_ret ?_
    exact zT [] (An (Ak 1 tv) (An (An (zr (bv true)) (zr nilN)) (An (zr true) (An (zr true) (zr true)))))
   ·refine swp_skip ?_
    refine swp_seq ?_
    refine swp_seq ?_
    refine zR [5,10] [5000] (Ak 1 tv) ?_
    refine swp_block ?_
    refine zL (Hint.ann (h3b t c) [(5,AV.ptr 5000 [])] [(5000,OB.cells 28 (cTwn (altT t c)))] 20520) (zE hE [] [(5000,.same 5000)] [] [5000] (An (An (An (zr (some (Src.same 5000))) (zr nilP)) (An (An (ci (o73 hpre y17 x20 hx20 y29 y118)) (zr nilN)) tv)) (An (An (An (zr (OB.cells 28 (cTwn (altT t c)))) (zr true)) tv) (An (zr true) (zr true))))) (o74 hpre y17 x20 hx20 y29 y118) (fun (x120:Nat) hx120 => ?_)
    refine swp_seq ?_
    refine swp_seq ?_
    refine zR [5,10,108] [5000] (Ak 5 tv) ?_
    refine zI (decide ((x120:Int) < (↑((Twn.places (altT t c)).length):Int))) (fun y121 => ?_) (fun y121 => ?_)
    ·refine swp_skip ?_
     refine swp_seq ?_
     refine swp_block ?_
     refine swp_seq ?_
     refine swp_seq ?_
     refine zC ([(11,CallSpec.eq (s14 (altT t c) (x120:Int)) [true,true])]) [5,10,124] [5000] (Ak 4 (An (An (o75 hpre y17 x20 hx20 y29 y118 x120 hx120 y121) (o76 hpre y17 x20 hx20 y29 y118 x120 hx120 y121)) (Ak 4 (An (fun (y122:(!decide (Thg.prints (thg (Twn.house (altT t c)) x120)=0))=true)=>(An (Ak 1 tv) tv)) (An (fun (y123:(!decide (Thg.prints (thg (Twn.house (altT t c)) x120)=0))=true)=>(An (Ak 1 tv) tv)) (An (fun (y124:(!decide (Thg.prints (thg (Twn.house (altT t c)) x120)=0))=true)=>(An (Ak 1 (An (fun (y125:(!decide (Thg.prints (thg (Twn.house (altT t c)) x120)=0))=true)=>y124) (An (fun (y126:(!decide (Thg.prints (thg (Twn.house (altT t c)) x120)=0))=true)=>y124) tv))) (An (An (zr (AV.agg (cTwn (altT t c)))) (An (zr (iv (x120:Int))) tv)) (An (t14 (altT t c) ((x120:Int))) (An (An (o77 hpre y17 x20 hx20 y29 y118 x120 hx120 y121 y124) (o78 hpre y17 x20 hx20 y29 y118 x120 hx120 y121 y124)) (Ak 1 (fun (i127:Env)=>tv))))))) (An (fun (y128:(!decide (Thg.prints (thg (Twn.house (altT t c)) x120)=0))=true)=>(An (An (fun (y129:(!decide (Thg.prints (thg (Twn.house (altT t c)) x120)=0))=true)=>y128) tv) tv)) (An (An (fun (y130:decide (Thg.prints (thg (Twn.house (altT t c)) x120)=0)=true)=>tv) (fun (y131:decide (Thg.prints (thg (Twn.house (altT t c)) x120)=0)=false)=>(o79 hpre y17 x20 hx20 y29 y118 x120 hx120 y121 y131))) tv)))))))) ?_
     refine zI (bif decide (Thg.prints (thg (Twn.house (altT t c)) x120)=0) then true else !thereT (altT t c) x120) (fun y132 => ?_) (fun y132 => ?_)
     ·refine swp_exit ?_
      refine zR [5,10] [5000] (Ak 1 (An (o80 hpre y17 x20 hx20 y29 y118 x120 hx120 y121 y132) (Ak 1 tv))) ?_
      exact zn (zE hE [] [(5000,.same 5000)] [] [5000] (An (An (An (zr (some (Src.same 5000))) (zr nilP)) (An (An (ci (o81 hpre y17 x20 hx20 y29 y118 x120 hx120 y121 y132)) (zr nilN)) tv)) (An (An (An (zr (OB.cells 28 (cTwn (altT t c)))) (zr true)) tv) (An (zr true) (zr true))))) (o82 hpre y17 x20 hx20 y29 y118 x120 hx120 y121 y132) (o83 hpre y17 x20 hx20 y29 y118 x120 hx120 y121 y132)
     ·refine swp_skip ?_
      refine swp_seq ?_
      refine zC ([(2,CallSpec.eq (s15 (altT t c) x120) [true,true])]) [5,10,11,12] [5000] (Ak 2 (An (An (An (zr (AV.agg (cTwn (altT t c)))) (An (zr (iv (x120:Int))) tv)) (An (t15 (altT t c) (x120)) (An (An (o84 hpre y17 x20 hx20 y29 y118 x120 hx120 y121 y132) (o85 hpre y17 x20 hx20 y29 y118 x120 hx120 y121 y132)) (Ak 1 (fun (i133:Env)=>tv))))) (Ak 5 tv))) ?_
      refine swp_seq ?_
      refine swp_seq ?_
      refine zR [5,10,136] [5000] (Ak 3 (An (fun (y134:(!false)=true)=>(An (Ak 1 tv) tv)) (An (fun (y135:(!false)=true)=>(An (An (fun (y136:(!false)=true)=>(zr true)) tv) tv)) (An (An (fun (y137:false=true)=>tv) (fun (y138:false=false)=>(zr true))) tv)))) ?_
      refine zI (!freshT (altT t c) x120) (fun h=>by cases (h.symm.trans (o86 hpre y17 x20 hx20 y29 y118 x120 hx120 y121 y132))) (fun _ => ?_)
      refine swp_skip ?_
      refine swp_seq ?_
      refine zR [5,10,13] [5000] (Ak 1 tv) ?_
      refine swp_block ?_
      refine zL (Hint.ann (h3c t c x120) [(5,AV.ptr 5000 []),(10,iv (x120:Int))] [(5000,OB.cells 28 (cTwn (altT t c)))] 30792) (zE hE [] [(5000,.same 5000)] [10] [5000] (An (An (An (zr (some (Src.same 5000))) (zr nilP)) (An (An (zr (iv (x120:Int))) (zr true)) (An (An (ci (o87 hpre y17 x20 hx20 y29 y118 x120 hx120 y121 y132)) (zr nilN)) tv))) (An (An (An (zr (OB.cells 28 (cTwn (altT t c)))) (zr true)) tv) (An (zr true) (zr true))))) (o88 hpre y17 x20 hx20 y29 y118 x120 hx120 y121 y132) (fun (x139:Nat) hx139 => ?_)
      refine swp_seq ?_
      refine swp_seq ?_
      refine zR [5,10,13,139] [5000] (Ak 3 tv) ?_
      refine zI (decide ((x139:Int) < (x120:Int))) (fun y140 => ?_) (fun y140 => ?_)
      ·refine swp_skip ?_
       refine swp_seq ?_
       refine swp_block ?_
       refine swp_seq ?_
       refine swp_seq ?_
       refine zC ([(11,CallSpec.eq (s14 (altT t c) (x139:Int)) [true,true]),(17,CallSpec.eq (s16 (altT t c) x139) [true,true]),(20,CallSpec.eq (s16 (altT t c) x120) [true,true])]) [5,10,13,177] [5000] (Ak 4 (An (An (o89 hpre y17 x20 hx20 y29 y118 x120 hx120 y121 y132 x139 hx139 y140) (o90 hpre y17 x20 hx20 y29 y118 x120 hx120 y121 y132 x139 hx139 y140)) (Ak 4 (An (fun (y141:(!decide (Thg.prints (thg (Twn.house (altT t c)) x139)=0))=true)=>(An (Ak 1 tv) tv)) (An (fun (y142:(!decide (Thg.prints (thg (Twn.house (altT t c)) x139)=0))=true)=>(An (Ak 1 tv) tv)) (An (fun (y143:(!decide (Thg.prints (thg (Twn.house (altT t c)) x139)=0))=true)=>(An (Ak 1 (An (fun (y144:(!decide (Thg.prints (thg (Twn.house (altT t c)) x139)=0))=true)=>y143) (An (fun (y145:(!decide (Thg.prints (thg (Twn.house (altT t c)) x139)=0))=true)=>y143) tv))) (An (An (zr (AV.agg (cTwn (altT t c)))) (An (zr (iv (x139:Int))) tv)) (An (t14 (altT t c) ((x139:Int))) (An (An (o91 hpre y17 x20 hx20 y29 y118 x120 hx120 y121 y132 x139 hx139 y140 y143) (o92 hpre y17 x20 hx20 y29 y118 x120 hx120 y121 y132 x139 hx139 y140 y143)) (Ak 1 (fun (i146:Env)=>tv))))))) (An (fun (y147:(!decide (Thg.prints (thg (Twn.house (altT t c)) x139)=0))=true)=>(An (An (fun (y148:(!decide (Thg.prints (thg (Twn.house (altT t c)) x139)=0))=true)=>y147) tv) tv)) (An (An (fun (y149:decide (Thg.prints (thg (Twn.house (altT t c)) x139)=0)=true)=>tv) (fun (y150:decide (Thg.prints (thg (Twn.house (altT t c)) x139)=0)=false)=>(o93 hpre y17 x20 hx20 y29 y118 x120 hx120 y121 y132 x139 hx139 y140 y150))) (Ak 1 (An (fun (y151:(!bif decide (Thg.prints (thg (Twn.house (altT t c)) x139)=0) then true else !thereT (altT t c) x139)=true)=>(An (Ak 1 tv) tv)) (An (fun (y152:(!bif decide (Thg.prints (thg (Twn.house (altT t c)) x139)=0) then true else !thereT (altT t c) x139)=true)=>(An (Ak 1 tv) tv)) (An (fun (y153:(!bif decide (Thg.prints (thg (Twn.house (altT t c)) x139)=0) then true else !thereT (altT t c) x139)=true)=>(An (Ak 1 (An (fun (y154:(!bif decide (Thg.prints (thg (Twn.house (altT t c)) x139)=0) then true else !thereT (altT t c) x139)=true)=>y153) (An (fun (y155:(!bif decide (Thg.prints (thg (Twn.house (altT t c)) x139)=0) then true else !thereT (altT t c) x139)=true)=>y153) tv))) (An (An (zr (AV.agg (cTwn (altT t c)))) (An (zr (iv (x139:Int))) tv)) (An (t16 (altT t c) (x139)) (An (An (o94 hpre y17 x20 hx20 y29 y118 x120 hx120 y121 y132 x139 hx139 y140 y153) (o95 hpre y17 x20 hx20 y29 y118 x120 hx120 y121 y132 x139 hx139 y140 y153)) (Ak 1 (fun (i156:Env)=>tv))))))) (An (fun (y157:(!bif decide (Thg.prints (thg (Twn.house (altT t c)) x139)=0) then true else !thereT (altT t c) x139)=true)=>(An (Ak 1 tv) tv)) (An (fun (y158:(!bif decide (Thg.prints (thg (Twn.house (altT t c)) x139)=0) then true else !thereT (altT t c) x139)=true)=>(An (Ak 1 tv) tv)) (An (fun (y159:(!bif decide (Thg.prints (thg (Twn.house (altT t c)) x139)=0) then true else !thereT (altT t c) x139)=true)=>(An (Ak 1 (An (fun (y160:(!bif decide (Thg.prints (thg (Twn.house (altT t c)) x139)=0) then true else !thereT (altT t c) x139)=true)=>y159) (An (fun (y161:(!bif decide (Thg.prints (thg (Twn.house (altT t c)) x139)=0) then true else !thereT (altT t c) x139)=true)=>y159) tv))) (An (An (zr (AV.agg (cTwn (altT t c)))) (An (zr (iv (x120:Int))) tv)) (An (t16 (altT t c) (x120)) (An (An (o96 hpre y17 x20 hx20 y29 y118 x120 hx120 y121 y132 x139 hx139 y140 y159) (o97 hpre y17 x20 hx20 y29 y118 x120 hx120 y121 y132 x139 hx139 y140 y159)) (Ak 1 (fun (i162:Env)=>tv))))))) (An (fun (y163:(!bif decide (Thg.prints (thg (Twn.house (altT t c)) x139)=0) then true else !thereT (altT t c) x139)=true)=>(An (An (fun (y164:(!bif decide (Thg.prints (thg (Twn.house (altT t c)) x139)=0) then true else !thereT (altT t c) x139)=true)=>y163) (An (fun (y165:(!bif decide (Thg.prints (thg (Twn.house (altT t c)) x139)=0) then true else !thereT (altT t c) x139)=true)=>y163) tv)) tv)) (An (An (fun (y166:(bif decide (Thg.prints (thg (Twn.house (altT t c)) x139)=0) then true else !thereT (altT t c) x139)=true)=>tv) (fun (y167:(bif decide (Thg.prints (thg (Twn.house (altT t c)) x139)=0) then true else !thereT (altT t c) x139)=false)=>(o98 hpre y17 x20 hx20 y29 y118 x120 hx120 y121 y132 x139 hx139 y140 y167))) (Ak 1 (An (fun (y168:(!bif bif decide (Thg.prints (thg (Twn.house (altT t c)) x139)=0) then true else !thereT (altT t c) x139 then true else !decide ((↑(pgN (Twn.house (altT t c)) x139):Int)=(↑(pgN (Twn.house (altT t c)) x120):Int)))=true)=>(An (Ak 1 tv) tv)) (An (fun (y169:(!bif bif decide (Thg.prints (thg (Twn.house (altT t c)) x139)=0) then true else !thereT (altT t c) x139 then true else !decide ((↑(pgN (Twn.house (altT t c)) x139):Int)=(↑(pgN (Twn.house (altT t c)) x120):Int)))=true)=>(An (An (fun (y170:(!bif bif decide (Thg.prints (thg (Twn.house (altT t c)) x139)=0) then true else !thereT (altT t c) x139 then true else !decide ((↑(pgN (Twn.house (altT t c)) x139):Int)=(↑(pgN (Twn.house (altT t c)) x120):Int)))=true)=>y169) tv) tv)) (An (fun (y171:(!bif bif decide (Thg.prints (thg (Twn.house (altT t c)) x139)=0) then true else !thereT (altT t c) x139 then true else !decide ((↑(pgN (Twn.house (altT t c)) x139):Int)=(↑(pgN (Twn.house (altT t c)) x120):Int)))=true)=>(An (Ak 1 tv) tv)) (An (fun (y172:(!bif bif decide (Thg.prints (thg (Twn.house (altT t c)) x139)=0) then true else !thereT (altT t c) x139 then true else !decide ((↑(pgN (Twn.house (altT t c)) x139):Int)=(↑(pgN (Twn.house (altT t c)) x120):Int)))=true)=>(An (An (fun (y173:(!bif bif decide (Thg.prints (thg (Twn.house (altT t c)) x139)=0) then true else !thereT (altT t c) x139 then true else !decide ((↑(pgN (Twn.house (altT t c)) x139):Int)=(↑(pgN (Twn.house (altT t c)) x120):Int)))=true)=>y172) (An (fun (y174:(!bif bif decide (Thg.prints (thg (Twn.house (altT t c)) x139)=0) then true else !thereT (altT t c) x139 then true else !decide ((↑(pgN (Twn.house (altT t c)) x139):Int)=(↑(pgN (Twn.house (altT t c)) x120):Int)))=true)=>y172) tv)) (An (o99 hpre y17 x20 hx20 y29 y118 x120 hx120 y121 y132 x139 hx139 y140 y172) (o100 hpre y17 x20 hx20 y29 y118 x120 hx120 y121 y132 x139 hx139 y140 y172)))) (An (fun (y175:(!bif bif decide (Thg.prints (thg (Twn.house (altT t c)) x139)=0) then true else !thereT (altT t c) x139 then true else !decide ((↑(pgN (Twn.house (altT t c)) x139):Int)=(↑(pgN (Twn.house (altT t c)) x120):Int)))=true)=>(An (An (fun (y176:(!bif bif decide (Thg.prints (thg (Twn.house (altT t c)) x139)=0) then true else !thereT (altT t c) x139 then true else !decide ((↑(pgN (Twn.house (altT t c)) x139):Int)=(↑(pgN (Twn.house (altT t c)) x120):Int)))=true)=>y175) tv) tv)) (An (fun (y177:(!bif bif decide (Thg.prints (thg (Twn.house (altT t c)) x139)=0) then true else !thereT (altT t c) x139 then true else !decide ((↑(pgN (Twn.house (altT t c)) x139):Int)=(↑(pgN (Twn.house (altT t c)) x120):Int)))=true)=>(An (Ak 1 tv) tv)) (An (fun (y178:(!bif bif decide (Thg.prints (thg (Twn.house (altT t c)) x139)=0) then true else !thereT (altT t c) x139 then true else !decide ((↑(pgN (Twn.house (altT t c)) x139):Int)=(↑(pgN (Twn.house (altT t c)) x120):Int)))=true)=>(An (An (fun (y179:(!bif bif decide (Thg.prints (thg (Twn.house (altT t c)) x139)=0) then true else !thereT (altT t c) x139 then true else !decide ((↑(pgN (Twn.house (altT t c)) x139):Int)=(↑(pgN (Twn.house (altT t c)) x120):Int)))=true)=>y178) tv) tv)) (An (fun (y180:(!bif bif decide (Thg.prints (thg (Twn.house (altT t c)) x139)=0) then true else !thereT (altT t c) x139 then true else !decide ((↑(pgN (Twn.house (altT t c)) x139):Int)=(↑(pgN (Twn.house (altT t c)) x120):Int)))=true)=>(An (Ak 1 tv) tv)) (An (fun (y181:(!bif bif decide (Thg.prints (thg (Twn.house (altT t c)) x139)=0) then true else !thereT (altT t c) x139 then true else !decide ((↑(pgN (Twn.house (altT t c)) x139):Int)=(↑(pgN (Twn.house (altT t c)) x120):Int)))=true)=>(An (An (fun (y182:(!bif bif decide (Thg.prints (thg (Twn.house (altT t c)) x139)=0) then true else !thereT (altT t c) x139 then true else !decide ((↑(pgN (Twn.house (altT t c)) x139):Int)=(↑(pgN (Twn.house (altT t c)) x120):Int)))=true)=>y181) (An (fun (y183:(!bif bif decide (Thg.prints (thg (Twn.house (altT t c)) x139)=0) then true else !thereT (altT t c) x139 then true else !decide ((↑(pgN (Twn.house (altT t c)) x139):Int)=(↑(pgN (Twn.house (altT t c)) x120):Int)))=true)=>y181) tv)) (An (o101 hpre y17 x20 hx20 y29 y118 x120 hx120 y121 y132 x139 hx139 y140 y181) (o102 hpre y17 x20 hx20 y29 y118 x120 hx120 y121 y132 x139 hx139 y140 y181)))) (An (fun (y184:(!bif bif decide (Thg.prints (thg (Twn.house (altT t c)) x139)=0) then true else !thereT (altT t c) x139 then true else !decide ((↑(pgN (Twn.house (altT t c)) x139):Int)=(↑(pgN (Twn.house (altT t c)) x120):Int)))=true)=>(An (An (fun (y185:(!bif bif decide (Thg.prints (thg (Twn.house (altT t c)) x139)=0) then true else !thereT (altT t c) x139 then true else !decide ((↑(pgN (Twn.house (altT t c)) x139):Int)=(↑(pgN (Twn.house (altT t c)) x120):Int)))=true)=>y184) tv) tv)) (An (fun (y186:(!bif bif decide (Thg.prints (thg (Twn.house (altT t c)) x139)=0) then true else !thereT (altT t c) x139 then true else !decide ((↑(pgN (Twn.house (altT t c)) x139):Int)=(↑(pgN (Twn.house (altT t c)) x120):Int)))=true)=>(An (An (fun (y187:(!bif bif decide (Thg.prints (thg (Twn.house (altT t c)) x139)=0) then true else !thereT (altT t c) x139 then true else !decide ((↑(pgN (Twn.house (altT t c)) x139):Int)=(↑(pgN (Twn.house (altT t c)) x120):Int)))=true)=>y186) (An (fun (y188:(!bif bif decide (Thg.prints (thg (Twn.house (altT t c)) x139)=0) then true else !thereT (altT t c) x139 then true else !decide ((↑(pgN (Twn.house (altT t c)) x139):Int)=(↑(pgN (Twn.house (altT t c)) x120):Int)))=true)=>y186) tv)) tv)) (An (An (fun (y189:(bif bif decide (Thg.prints (thg (Twn.house (altT t c)) x139)=0) then true else !thereT (altT t c) x139 then true else !decide ((↑(pgN (Twn.house (altT t c)) x139):Int)=(↑(pgN (Twn.house (altT t c)) x120):Int)))=true)=>tv) (fun (y190:(bif bif decide (Thg.prints (thg (Twn.house (altT t c)) x139)=0) then true else !thereT (altT t c) x139 then true else !decide ((↑(pgN (Twn.house (altT t c)) x139):Int)=(↑(pgN (Twn.house (altT t c)) x120):Int)))=false)=>(o103 hpre y17 x20 hx20 y29 y118 x120 hx120 y121 y132 x139 hx139 y140 y190))) tv)))))))))))))))))))))))))))))) ?_
       refine zI (bif bif bif decide (Thg.prints (thg (Twn.house (altT t c)) x139)=0) then true else !thereT (altT t c) x139 then true else !decide ((↑(pgN (Twn.house (altT t c)) x139):Int)=(↑(pgN (Twn.house (altT t c)) x120):Int)) then true else decide ((Twn.places (altT t c)).getD x139 0=(Twn.places (altT t c)).getD x120 0)) (fun y191 => ?_) (fun y191 => ?_)
       ·refine swp_exit ?_
        refine zR [5,10,13] [5000] (Ak 1 (An (o104 hpre y17 x20 hx20 y29 y118 x120 hx120 y121 y132 x139 hx139 y140 y191) (Ak 1 tv))) ?_
        exact zn (zE hE [] [(5000,.same 5000)] [10] [5000] (An (An (An (zr (some (Src.same 5000))) (zr nilP)) (An (An (zr (iv (x120:Int))) (zr true)) (An (An (ci (o105 hpre y17 x20 hx20 y29 y118 x120 hx120 y121 y132 x139 hx139 y140 y191)) (zr nilN)) tv))) (An (An (An (zr (OB.cells 28 (cTwn (altT t c)))) (zr true)) tv) (An (zr true) (zr true))))) (o106 hpre y17 x20 hx20 y29 y118 x120 hx120 y121 y132 x139 hx139 y140 y191) (o107 hpre y17 x20 hx20 y29 y118 x120 hx120 y121 y132 x139 hx139 y140 y191)
       ·refine swp_skip ?_
        refine swp_seq ?_
        refine zR [5,10,13,14] [5000] (Ak 1 tv) ?_
        refine swp_block ?_
        refine zL (Hint.ann (h3d t c x120 x139) [(5,AV.ptr 5000 []),(10,iv (x120:Int)),(13,iv (x139:Int))] [(5000,OB.cells 28 (cTwn (altT t c)))] 41112) (zE hE [] [(5000,.same 5000)] [10,13] [5000] (An (An (An (zr (some (Src.same 5000))) (zr nilP)) (An (An (zr (iv (x120:Int))) (zr true)) (An (An (zr (iv (x139:Int))) (zr true)) (An (An (ci (o108 hpre y17 x20 hx20 y29 y118 x120 hx120 y121 y132 x139 hx139 y140 y191)) (zr nilN)) tv)))) (An (An (An (zr (OB.cells 28 (cTwn (altT t c)))) (zr true)) tv) (An (zr true) (zr true))))) (o109 hpre y17 x20 hx20 y29 y118 x120 hx120 y121 y132 x139 hx139 y140 y191) (fun (x192:Nat) hx192 => ?_)
        refine swp_seq ?_
        refine swp_seq ?_
        refine zR [5,10,13,14,182] [5000] (Ak 5 tv) ?_
        refine zI (decide ((x192:Int) < (↑((Twn.rooms (altT t c)).length):Int))) (fun y193 => ?_) (fun y193 => ?_)
        ·refine swp_skip ?_
         refine swp_seq ?_
         refine swp_block ?_
         refine swp_seq ?_
         refine zC ([(2,CallSpec.eq (s17 (altT t c) (x192:Int)) [true,true])]) [5,10,13,14,15,16] [5000] (Ak 2 (An (An (An (zr (AV.agg (cTwn (altT t c)))) (An (zr (iv (x192:Int))) tv)) (An (t17 (altT t c) ((x192:Int))) (An (An (o110 hpre y17 x20 hx20 y29 y118 x120 hx120 y121 y132 x139 hx139 y140 y191 x192 hx192 y193) (An (o111 hpre y17 x20 hx20 y29 y118 x120 hx120 y121 y132 x139 hx139 y140 y191 x192 hx192 y193) (o112 hpre y17 x20 hx20 y29 y118 x120 hx120 y121 y132 x139 hx139 y140 y191 x192 hx192 y193))) (Ak 1 (fun (i194:Env)=>tv))))) (Ak 5 tv))) ?_
         refine swp_seq ?_
         refine zC ([(2,CallSpec.eq (s18 (altT t c) (x192:Int)) [true,true])]) [5,10,13,14,15,16,17,18] [5000] (Ak 2 (An (An (An (zr (AV.agg (cTwn (altT t c)))) (An (zr (iv (x192:Int))) tv)) (An (t18 (altT t c) ((x192:Int))) (An (An (o113 hpre y17 x20 hx20 y29 y118 x120 hx120 y121 y132 x139 hx139 y140 y191 x192 hx192 y193) (An (o114 hpre y17 x20 hx20 y29 y118 x120 hx120 y121 y132 x139 hx139 y140 y191 x192 hx192 y193) (o115 hpre y17 x20 hx20 y29 y118 x120 hx120 y121 y132 x139 hx139 y140 y191 x192 hx192 y193))) (Ak 1 (fun (i195:Env)=>tv))))) (Ak 5 tv))) ?_
         refine swp_seq ?_
         refine zC ([(2,CallSpec.eq (s16 (altT t c) x120) [true,true])]) [5,10,13,14,15,16,17,18,19] [5000] (Ak 2 (An (An (An (zr (AV.agg (cTwn (altT t c)))) (An (zr (iv (x120:Int))) tv)) (An (t16 (altT t c) (x120)) (An (An (o116 hpre y17 x20 hx20 y29 y118 x120 hx120 y121 y132 x139 hx139 y140 y191 x192 hx192 y193) (o117 hpre y17 x20 hx20 y29 y118 x120 hx120 y121 y132 x139 hx139 y140 y191 x192 hx192 y193)) (Ak 1 (fun (i196:Env)=>tv))))) (Ak 1 tv))) ?_
         refine swp_seq ?_
         refine zC ([(9,CallSpec.eq (s19 (lostL (altT t c) (x192:Int)) (↑(pgN (Twn.house (altT t c)) x120):Int)) [false,true]),(14,CallSpec.eq (s19 (staleL (altT t c) (x192:Int)) (↑(pgN (Twn.house (altT t c)) x120):Int)) [false,true])]) [5,10,13,14,215] [5000] (Ak 3 (An (fun (y197:(!false)=true)=>(An (Ak 1 tv) tv)) (An (fun (y198:(!false)=true)=>(An (An (fun (y199:(!false)=true)=>(zr true)) (Ak 1 tv)) tv)) (An (An (fun (y200:false=true)=>tv) (fun (y201:false=false)=>(zr true))) (Ak 1 (An (fun (y202:(!false)=true)=>(An (Ak 1 tv) tv)) (An (fun (y203:(!false)=true)=>(An (Ak 1 tv) tv)) (An (fun (y204:(!false)=true)=>(An (Ak 1 (An (fun (y205:(!false)=true)=>(zr true)) (An (fun (y206:(!false)=true)=>(zr true)) tv))) (An (An (An (zr 1) (An (zr (lostL (altT t c) (x192:Int)).length) (fun (i207:Nat)=>(fun (y208:i207 < (lostL (altT t c) (x192:Int)).length)=>(zr ([iv ((lostL (altT t c) (x192:Int)).getD i207 0)])))))) (An (zr (iv (↑(pgN (Twn.house (altT t c)) x120):Int))) tv)) (An (t19 (lostL (altT t c) (x192:Int)) ((↑(pgN (Twn.house (altT t c)) x120):Int))) (An (o118 hpre y17 x20 hx20 y29 y118 x120 hx120 y121 y132 x139 hx139 y140 y191 x192 hx192 y193 y204) (Ak 1 (fun (i209:Env)=>tv))))))) (An (An (fun (y210:false=true)=>tv) (fun (y211:false=false)=>(zr true))) (Ak 1 (An (fun (y212:(!isIn (lostL (altT t c) (x192:Int)) (↑(pgN (Twn.house (altT t c)) x120):Int))=true)=>(An (Ak 1 tv) tv)) (An (fun (y213:(!isIn (lostL (altT t c) (x192:Int)) (↑(pgN (Twn.house (altT t c)) x120):Int))=true)=>(An (Ak 1 tv) tv)) (An (fun (y214:(!isIn (lostL (altT t c) (x192:Int)) (↑(pgN (Twn.house (altT t c)) x120):Int))=true)=>(An (Ak 1 (An (fun (y215:(!isIn (lostL (altT t c) (x192:Int)) (↑(pgN (Twn.house (altT t c)) x120):Int))=true)=>y214) (An (fun (y216:(!isIn (lostL (altT t c) (x192:Int)) (↑(pgN (Twn.house (altT t c)) x120):Int))=true)=>y214) tv))) (An (An (An (zr 1) (An (zr (staleL (altT t c) (x192:Int)).length) (fun (i217:Nat)=>(fun (y218:i217 < (staleL (altT t c) (x192:Int)).length)=>(zr ([iv ((staleL (altT t c) (x192:Int)).getD i217 0)])))))) (An (zr (iv (↑(pgN (Twn.house (altT t c)) x120):Int))) tv)) (An (t19 (staleL (altT t c) (x192:Int)) ((↑(pgN (Twn.house (altT t c)) x120):Int))) (An (o119 hpre y17 x20 hx20 y29 y118 x120 hx120 y121 y132 x139 hx139 y140 y191 x192 hx192 y193 y214) (Ak 1 (fun (i219:Env)=>tv))))))) (An (An (fun (y220:isIn (lostL (altT t c) (x192:Int)) (↑(pgN (Twn.house (altT t c)) x120):Int)=true)=>tv) (fun (y221:isIn (lostL (altT t c) (x192:Int)) (↑(pgN (Twn.house (altT t c)) x120):Int)=false)=>(o120 hpre y17 x20 hx20 y29 y118 x120 hx120 y121 y132 x139 hx139 y140 y191 x192 hx192 y193 y221))) tv)))))))))))))) ?_
         refine zI (bif isIn (lostL (altT t c) (x192:Int)) (↑(pgN (Twn.house (altT t c)) x120):Int) then true else isIn (staleL (altT t c) (x192:Int)) (↑(pgN (Twn.house (altT t c)) x120):Int)) (fun h=>by cases (h.symm.trans (o121 hpre y17 x20 hx20 y29 y118 x120 hx120 y121 y132 x139 hx139 y140 y191 x192 hx192 y193))) (fun _ => ?_)
         refine swp_skip ?_
         refine zR [5,10,13,14] [5000] (Ak 1 (An (o122 hpre y17 x20 hx20 y29 y118 x120 hx120 y121 y132 x139 hx139 y140 y191 x192 hx192 y193) (Ak 1 tv))) ?_
         exact zn (zE hE [] [(5000,.same 5000)] [10,13] [5000] (An (An (An (zr (some (Src.same 5000))) (zr nilP)) (An (An (zr (iv (x120:Int))) (zr true)) (An (An (zr (iv (x139:Int))) (zr true)) (An (An (ci (o123 hpre y17 x20 hx20 y29 y118 x120 hx120 y121 y132 x139 hx139 y140 y191 x192 hx192 y193)) (zr nilN)) tv)))) (An (An (An (zr (OB.cells 28 (cTwn (altT t c)))) (zr true)) tv) (An (zr true) (zr true))))) (o124 hpre y17 x20 hx20 y29 y118 x120 hx120 y121 y132 x139 hx139 y140 y191 x192 hx192 y193) (o125 hpre y17 x20 hx20 y29 y118 x120 hx120 y121 y132 x139 hx139 y140 y191 x192 hx192 y193)
        ·refine swp_exit ?_
         refine zR [5,10,13] [5000] (Ak 1 (An (o126 hpre y17 x20 hx20 y29 y118 x120 hx120 y121 y132 x139 hx139 y140 y191 x192 hx192 y193) (Ak 1 tv))) ?_
         exact zn (zE hE [] [(5000,.same 5000)] [10] [5000] (An (An (An (zr (some (Src.same 5000))) (zr nilP)) (An (An (zr (iv (x120:Int))) (zr true)) (An (An (ci (o127 hpre y17 x20 hx20 y29 y118 x120 hx120 y121 y132 x139 hx139 y140 y191 x192 hx192 y193)) (zr nilN)) tv))) (An (An (An (zr (OB.cells 28 (cTwn (altT t c)))) (zr true)) tv) (An (zr true) (zr true))))) (o128 hpre y17 x20 hx20 y29 y118 x120 hx120 y121 y132 x139 hx139 y140 y191 x192 hx192 y193) (o129 hpre y17 x20 hx20 y29 y118 x120 hx120 y121 y132 x139 hx139 y140 y191 x192 hx192 y193)
      ·refine swp_exit ?_
       refine zR [5,10] [5000] (Ak 1 (An (o130 hpre y17 x20 hx20 y29 y118 x120 hx120 y121 y132 x139 hx139 y140) (Ak 1 tv))) ?_
       exact zn (zE hE [] [(5000,.same 5000)] [] [5000] (An (An (An (zr (some (Src.same 5000))) (zr nilP)) (An (An (ci (o131 hpre y17 x20 hx20 y29 y118 x120 hx120 y121 y132 x139 hx139 y140)) (zr nilN)) tv)) (An (An (An (zr (OB.cells 28 (cTwn (altT t c)))) (zr true)) tv) (An (zr true) (zr true))))) (o132 hpre y17 x20 hx20 y29 y118 x120 hx120 y121 y132 x139 hx139 y140) (o133 hpre y17 x20 hx20 y29 y118 x120 hx120 y121 y132 x139 hx139 y140)
    ·refine swp_exit ?_
     refine swp_seq ?_
     refine zC ([(0,CallSpec.eq s8 [])]) [4] [] (An (Ak 1 (An (t8) (Ak 2 (fun (i222:Env)=>tv)))) (Ak 1 tv)) ?_
     refine swp_ret ?_
     exact zT [] (An (Ak 1 tv) (An (An (zr (bv true)) (zr nilN)) (An (zr true) (An (zr true) (zr true)))))
theorem top_ok {t:Twn} {c:Int} (h:(bif bif far10 t then true else !decide (check10 t=0) then true else !within c 0 2)=false):okTwn t=true/\within c 0 2=true:=by
 unfold check10 at h
 cases hk:okTwn t with
 | false=>rw [hk] at h; revert h; cases far10 t <;> cases within c 0 2 <;> simp
 | true=>rw [hk] at h; revert h; cases far10 t <;> cases within c 0 2 <;> simp
theorem chk_ok {t:Twn} (h:(!decide (check10 t=0))=false):okTwn t=true:=by
 unfold check10 at h
 cases hk:okTwn t with
 | false=>rw [hk] at h; revert h; simp
 | true=>rfl
theorem or2_ok {a b:Bool} (h:(bif a then true else !b)=false):a=false/\b=true:=by cases a <;> cases b <;> simp at h ⊢
theorem or4_ok {a b c d:Bool} (h:(bif bif bif a then true else !b then true else !c then true else d)=false):a=false/\b=true/\c=true/\d=false:=by cases a <;> cases b <;> cases c <;> cases d <;> simp at h ⊢
theorem keep_b {t:Twn} {c:Int} {m:Mrk} {v:Bool} (h:(bif decide (m.ch=c) then decide (m.at_<=t.minute) else false)=v):keepM t c m=v:=by rw [Bool.cond_false_right] at h; exact h
theorem one_of {h:Hs} {i:Nat} (hT:okT h i=true) (h0:decide ((thg h i).prints=0)=false):(thg h i).prints=1:=by
 have h1:=Go.Sh.within_iff.1 (okT_facts hT).2.2.2.2
 have h2:=of_decide_eq_false h0
 omega
theorem fits_alt {t:Twn} {c:Int} (h:okTwn t=true):fitsT (altT t c):=by
 obtain ⟨hH,hr,hpl,hca,hmi,hP,hR,hro⟩:=okTwn_iff.1 h
 obtain ⟨l1,l2,hT,hM⟩:=okH_iff.1 hH
 have h2:=(okH_iff.1 (okH_only (c:=c) hH)).2.1
 have h3:=(rem_in t c).1
 refine ⟨⟨?_,?_⟩,?_,?_,?_⟩
 ·show t.house.things.length<=1125899906842624; omega
 ·show (altMs (onlyH t c) c t.minute (remT t c)).length<=1125899906842624; rw [altMs_len]; omega
 ·show t.places.length<=1125899906842624; omega
 ·show t.carry.length<=1125899906842624; omega
 ·show t.rooms.length<=1125899906842624; omega
theorem t3 (t:Twn) (c:Int):Triple Try.prog 3 (s3 t c):=by
  apply w3
  all_goals (try delta q47 q48 q49 q4a q4b q4c q4d q4e q4f q4g q4h q4i q4j q4k q4l q4m q4n q4o q4p q4q q4r)
  case o0 | o1 | o79 | o93 | o98 | o103 | o120=>all_goals ((repeat intro _) <;> (try simp only [Bool.cond_true_left,Bool.cond_false_right,Bool.not_not,Bool.not_eq_true',Bool.not_eq_false',Bool.or_eq_true,Bool.or_eq_false_iff,Bool.and_eq_true,decide_eq_true_eq,decide_eq_false_iff_not,inI,big] at *) <;> first | (exact rfl) | omega | (exact ⟨Nat.zero_le _,fun j hj=>absurd hj (Nat.not_lt_zero j)⟩) | (simp_all; done) | (simp_all; omega))
  all_goals (intro hp hc0; obtain ⟨hok,hc⟩:=top_ok hc0; obtain ⟨hH,hr,hpl,hca,hmi,hP,hR,hro⟩:=okTwn_iff.1 hok; obtain ⟨l1,l2,hT,hM⟩:=okH_iff.1 hH)
  case o2 | o3 | o4 | o5 | o6=>all_goals omega
  case o7=>rfl
  case o8=>rfl
  case o9=>omega
  all_goals (intro n hn hl; simp only [decide_eq_true_eq,decide_eq_false_iff_not] at hl)
  case o10 | o11=>all_goals omega
  case o12=>intro _; have:=onlyM_len t c n; omega
  case o13 | o19=>all_goals (intro _; constructor <;> omega)
  case o14 | o17 | o18 | o20 | o23 | o24=>all_goals (intro _; omega)
  case o15=>intro hk; rw [onlyM_t (by omega) (keep_b hk),List.length_append]; rfl
  case o16=>intro hk i hi; rw [onlyM_t (by omega) (keep_b hk)]; refine catF_one _ (t.house.marks.getD n default) default (fun z=>cMrk z) rfl (fun _ _=>rfl) ?_ hi; rfl
  case o21=>intro hk; rw [onlyM_f (by omega) (keep_b hk)]
  case o22=>intro hk i _; rw [onlyM_f (by omega) (keep_b hk)]
  all_goals (have e : n = t.house.marks.length := by omega
             subst e)
  case o27=>rw [onlyM_all]; rfl
  case o28=>intro i _; rw [onlyM_all]; rfl
  all_goals (have h2:=(okH_iff.1 (okH_only (c:=c) hH)).2.1; have h3:=rem_in t c)
  case o25 | o26 | o29 | o30 | o31 | o32 | o33 | o34 | o35 | o36 | o37 | o38 | o39=>all_goals (intros; rfl)
  case o40=>show t.house.things.length<=65536; omega
  case o41=>omega
  case o42=>exact okH_only hH
  case o43=>exact hc
  case o44=>exact Go.Sh.within_iff.2 hmi
  case o45=>intros; constructor <;> omega
  case o46 | o47 | o50 | o51 | o52 | o53 | o54 | o55=>all_goals (intros; rfl)
  case o48=>intros; show _<=1125899906842624; omega
  case o49=>intros; rw [rem_ris]; rfl
  case o56=>show t.house.things.length<=64; omega
  case o57=>omega
  case o58=>omega
  case o59 | o60 =>
    all_goals (intro k hk; have:=h3.2 _ (Go.Ab.getD_mem (remT t c) 0 hk); first | exact this.1 | exact this.2)
  case o61 | o62 | o63 | o64 | o65 | o66 | o67 | o68 | o69 | o70 | o71=>all_goals (intros; rfl)
  case o72=>exact fits_alt hok
  all_goals (intro hck; have hoa:=chk_ok hck; have hHa:=(okTwn_iff.1 hoa).1)
  case o73=>rfl
  case o74=>omega
  all_goals (intro x hx hxl; simp only [decide_eq_true_eq,decide_eq_false_iff_not] at hxl; replace hxl:(x:Int) < t.places.length:=hxl)
  case o75 | o77=>all_goals (intros; omega)
  case o76 | o78=>all_goals (intros; show (x:Int) < t.house.things.length; omega)
  case o80=>intros; constructor <;> omega
  case o81 | o82 | o83=>all_goals (intros; omega)
  all_goals (intro hpt; obtain ⟨p1,ht1⟩:=or2_ok hpt; have hp1:=one_of (hT x (by omega)) p1)
  case o84=>exact hoa
  case o85=>show x < t.house.things.length; omega
  case o86=>rw [alt_fresh hok hc (by omega) hp1 ht1]; rfl
  case o87=>rfl
  case o88=>omega
  all_goals (intro y hy hyl; simp only [decide_eq_true_eq,decide_eq_false_iff_not] at hyl)
  case o130=>intros; constructor <;> omega
  case o131 | o132 | o133=>all_goals (intros; omega)
  case o89 | o91 | o99 | o101=>all_goals (intros; omega)
  case o90 | o92=>all_goals (intros; show (y:Int) < t.house.things.length; omega)
  case o94 | o96=>all_goals (intros; exact hHa)
  case o95=>intros; show y < t.house.things.length; omega
  case o97=>intros; show x < t.house.things.length; omega
  case o100=>intros; show (y:Int) < t.places.length; omega
  case o102=>intros; show (x:Int) < t.places.length; omega
  case o104=>intros; constructor <;> omega
  case o105 | o106 | o107=>all_goals (intros; omega)
  all_goals (intro hg2; obtain ⟨q1,q2,q3,q4⟩:=or4_ok hg2)
  case o108=>rfl
  case o109=>omega
  all_goals (intro z hz hzl; simp only [decide_eq_true_eq,decide_eq_false_iff_not] at hzl; have hrl:(altT t c).rooms.length=t.rooms.length:=rfl)
  case o126=>intros; constructor <;> omega
  case o127 | o128 | o129=>all_goals (intros; omega)
  case o110 | o113=>all_goals (intros; exact hoa)
  case o111 | o114=>all_goals (intros; omega)
  case o112 | o115=>all_goals (intros; exact hzl)
  case o116=>intros; exact hHa
  case o117=>intros; show x < t.house.things.length; omega
  case o118=>intros; have:=thTo_len (lostB (altT t c) (z:Int)) t.house.things.length; show (thTo (lostB (altT t c) (z:Int)) t.house.things.length).length<=1125899906842624; omega
  case o119=>intros; have:=thTo_len (staleB (altT t c) (z:Int)) t.house.things.length; show (thTo (staleB (altT t c) (z:Int)) t.house.things.length).length<=1125899906842624; omega
  case o121 =>
    have hp2:=one_of (hT y (by omega)) q1
    have f1:=alt_fresh hok hc (i:=x) (by omega) hp1 ht1
    have f2:=alt_fresh hok hc (i:=y) (by omega) hp2 q2
    have e1:pgN (altT t c).house y=pgN (altT t c).house x:=by have:=of_decide_eq_true q3; omega
    have e2:(altT t c).places.getD y 0 ≠ (altT t c).places.getD x 0:=of_decide_eq_false q4
    have hs:=safe_two (t:=altT t c) (i:=x) (k:=y) (by show x < t.house.things.length; omega) (by show y < t.house.things.length; omega) ht1 q2 f1 f2 e1 e2 (z:Int)
    rw [hs.1,hs.2]; rfl
  case o122=>intros; constructor <;> omega
  all_goals (intros; omega)
end Go.Ab
namespace Go.Ab
open Go Go.RowKit
def Dec (P:Program) (t:TypeId) {α:Type} (c:α->List AV) (ok:α->Prop):Prop :=
 ∀ {H:Type} (enc:TypeId × Value->H) (w:World) (E:Env) (fuel:Nat) (cs:List Value) (d:DataW H) (ps:List MemPlace),
  (∀ b,E.M b=w.heap[b]?)->DataW.trod enc P w 0 (fun _=>true) true fuel t cs=some (d,ps)->(∀ n ∈ d.weights P t,n<=reachBytes) -> ∃ a,ok a /\ ∀ o,RelL E o (c a) cs
theorem mcell_of {E:Env} {w:World} (h:∀ b,E.M b=w.heap[b]?) {a:Addr} {v:Value} (hc:w.cell? a=some v):a.spot=none/\mcell E.M a.block a.off=some v:=by
 refine ⟨World.cell?_spot hc,?_⟩
 have hs:=World.cell?_spot hc
 unfold World.cell? at hc
 unfold mcell
 rw [h]
 split at hc
 ·rename_i c t fr e
  rw [hs] at hc
  rw [e]
  simpa using hc
 ·cases hc
theorem lit_wf {n:Int} (h:(Lit.int .i64 n).wf=true) : -9223372036854775808<=n/\n<=9223372036854775807:=by
 simpa [Lit.wf,IntKind.min,IntKind.max,IntKind.signed,IntKind.bits] using h
theorem dec_int {P:Program} {t:TypeId} (ht:P.underlying t=some (.int .i64)):Dec P t (fun n=>[iv n]) (fun n => -9223372036854775808<=n/\n<=9223372036854775807):=by
 intro H enc w E fuel cs d ps _ h _
 obtain ⟨n,rfl,_,hw⟩:=DataW.trod_int ht h
 exact ⟨n,lit_wf hw,fun o => .cons (.lit _) rfl .nil⟩
theorem weightsAll_mem {H:Type} {P:Program} {e:TypeId}:∀ {l:List (DataW H)} {d:DataW H},d ∈ l -> ∀ n ∈ d.weights P e,n ∈ DataW.weightsAll P e l:=by
 intro l
 induction l with
 | nil=>intro d h; cases h
 | cons x l ih =>
  intro d h n hn
  rw [DataW.weightsAll,List.mem_append]
  rcases List.mem_cons.1 h with rfl | h
  ·exact .inl hn
  ·exact .inr (ih h n hn)
theorem dec_slice {P:Program} {t e:TypeId} {α:Type} [Inhabited α] {c:α->List AV} {ok:α->Prop} (ht:P.underlying t=some (.slice e)) {sz:Nat} (hsz:P.cellsOf e=sz) (hpos:0 < sz) (hby:0 < P.bytesOf e) (he:Dec P e c ok) :
  Dec P t (fun l:List α=>[.sl sz l.length (fun i=>c (l.getD i default))]) (fun l=>l.length<=140737488355328 /\ ∀ a,a ∈ l->ok a):=by
 intro H enc w E fuel cs d ps hE h hw
 rcases Deep.open_slice ht h with ⟨rfl,hx⟩ | ⟨a,len,cap,m,n,D,Pl,rfl,hb,hl,hm,hmm,hx,hall⟩
 ·refine ⟨[],⟨Nat.zero_le _,fun a ha=>by cases ha⟩,fun o => ?_⟩
  exact .cons (.slN _ _) rfl .nil
 ·simp only [if_true] at hmm
  subst hmm
  rw [hsz] at hall
  obtain ⟨rfl,rfl⟩:=Prod.mk.inj hx
  have hwt:∀ i,i < len -> ∀ k ∈ (D i).weights P e,k<=reachBytes:=by
   intro i hi k hk
   refine hw k ?_
   rw [DataW.weights,ht]
   refine List.mem_cons_of_mem _ (List.mem_append_left _ (weightsAll_mem (d:=D i) ?_ k hk))
   exact List.mem_map.2 ⟨i,List.mem_range.2 hi,rfl⟩
  have hlen:len<=140737488355328:=by
   have h1:(((List.range len).map D).length + ((List.range (m - len)).map fun j=>D (len + j)).length) * P.bytesOf e<=reachBytes:=by
    refine hw _ ?_
    rw [DataW.weights,ht]
    exact List.mem_cons_self ..
   simp only [List.length_map,List.length_range] at h1
   have h2:len<=(len + (m - len)) * P.bytesOf e:=Nat.le_trans (Nat.le_add_right _ _) (Nat.le_mul_of_pos_right _ hby)
   have h3:=reachBytes_lt
   omega
  obtain ⟨g,hg⟩:=Deep.choose_lt (α:=List Value) (p:=fun i cs'=>w.cells? 0 (a.add (i * sz)) sz=some cs'/\DataW.trod enc P w 0 (fun _=>true) true n e cs'=some (D i,Pl i)) hall
  have hdec:∀ i,i < len -> ∃ x,ok x /\ ∀ o,RelL E o (c x) (g i):=fun i hi=>he enc w E n (g i) (D i) (Pl i) hE (hg i (by omega)).2 (hwt i hi)
  obtain ⟨A,hA⟩:=Deep.choose_lt (α:=α) (p:=fun i x=>ok x /\ ∀ o,RelL E o (c x) (g i)) hdec
  refine ⟨(List.range len).map A,⟨by simpa using hlen,fun x hx => ?_⟩,fun o => .cons ?_ rfl .nil⟩
  ·obtain ⟨i,hi,rfl⟩:=List.mem_map.1 hx
   exact (hA i (List.mem_range.1 hi)).1
  ·rw [List.length_map,List.length_range]
   have hcell:∀ i k,i < m->k < sz -> ∃ v,(g i)[k]? = some v/\w.cell? ((a.add (i * sz)).add k)=some v:=by
    intro i k hi hk
    obtain ⟨_,hl1,hl2⟩:=World.cells?_some (hg i hi).1
    have:=hl2 k hk
    obtain ⟨v,hv⟩:∃ v,(g i)[k]? = some v:=⟨_,List.getElem?_eq_getElem (by omega)⟩
    exact ⟨v,hv,by rw [this,hv]⟩
   by_cases h0:m=0
   ·subst h0
    obtain rfl:len=0:=by omega
    exact .slZ _ _ _
   ·obtain ⟨v,_,hv⟩:=hcell 0 0 (by omega) hpos
    have hsp:=(mcell_of hE hv).1
    obtain ⟨b,off,spot⟩:=a
    obtain rfl:spot=none:=by simpa [Addr.add] using hsp
    refine .slA sz len _ b off m g hl hm (fun i hi => ?_) (fun i k hi hk => ?_) (fun i hi => ?_)
    ·exact (World.cells?_some (hg i (by omega)).1).2.1
    ·obtain ⟨v,hv1,hv2⟩:=hcell i k (by omega) hk
     rw [hv1]
     have:=(mcell_of hE hv2).2
     rw [addr_add,addr_add] at this
     exact this
    ·have:((List.range len).map A).getD i default=A i:=by
      rw [List.getD_eq_getElem?_getD,List.getElem?_map,List.getElem?_range hi]; rfl
     rw [this]
     exact (hA i hi).2 false
def DecFs (P:Program) (off fin:Nat) (fs:List Field) {α:Type} (c:α->List AV) (ok:α->Prop):Prop :=
 ∀ {H:Type} (enc:TypeId × Value->H) (w:World) (E:Env) (n:Nat) (cs:List Value) (xs:List (DataW H × List MemPlace)),
  (∀ b,E.M b=w.heap[b]?)->cs.length=fin->xs.length=fs.length->(∀ (i:Nat) (f:Field),fs[i]? = some f->DataW.trod enc P w 0 (fun _=>true) true n f.type ((cs.drop f.offset).take (P.cellsOf f.type))=xs[i]?) →
  (∀ k ∈ DataW.weightsEach P (fs.map (·.type)) (xs.map (·.1)),k<=reachBytes) -> ∃ a,ok a /\ ∀ o,RelL E o (c a) (cs.drop off)
theorem decFs_nil {P:Program} {fin:Nat}:DecFs P fin fin [] (fun _:Unit=>[]) (fun _=>True):=by
 intro H enc w E n cs xs _ hl _ _ _
 refine ⟨(),trivial,fun o => ?_⟩
 rw [List.drop_of_length_le (by omega)]
 exact .nil
theorem decFs_cons {P:Program} {off mid fin:Nat} {f:Field} {fs:List Field} {α β:Type} {c1:α->List AV} {ok1:α->Prop} {c2:β->List AV} {ok2:β->Prop} {t:TypeId} (hft:f.type=t) (ho:f.offset=off) (hm:off + P.cellsOf t=mid)
  (h1:Dec P t c1 ok1) (h2:DecFs P mid fin fs c2 ok2):DecFs P off fin (f :: fs) (fun p:α × β=>c1 p.1 ++ c2 p.2) (fun p=>ok1 p.1/\ok2 p.2):=by
 intro H enc w E n cs xs hE hl hx hall hw
 subst hft; subst ho; subst hm
 cases xs with
 | nil=>simp at hx
 | cons x xs =>
  have h0:=hall 0 f rfl
  simp only [List.getElem?_cons_zero] at h0
  obtain ⟨a,ha,hra⟩:=h1 enc w E n _ x.1 x.2 hE h0 (fun k hk=>hw k (by
   simp only [List.map_cons,DataW.weightsEach]
   exact List.mem_append_left _ hk))
  obtain ⟨b,hb,hrb⟩:=h2 enc w E n cs xs hE hl (by simpa using hx) (fun i g hg=>by
   have:=hall (i + 1) g (by simpa using hg)
   simpa using this) (fun k hk=>hw k (by
   simp only [List.map_cons,DataW.weightsEach]
   exact List.mem_append_right _ hk))
  refine ⟨(a,b),⟨ha,hb⟩,fun o => ?_⟩
  have:=(hra o).append (hrb o)
  rw [← List.drop_drop,List.take_append_drop] at this
  exact this
theorem dec_struct {P:Program} {t:TypeId} {fs:Array Field} {sz:Nat} {α:Type} {c:α->List AV} {ok:α->Prop} (ht:P.underlying t=some (.struct fs)) (hsz:P.cellsOf t=sz) (h:DecFs P 0 sz fs.toList c ok):Dec P t c ok:=by
 intro H enc w E fuel cs d ps hE hd hw
 obtain ⟨xs,n,_,hx,hl,hxl,hall⟩:=DataW.trod_struct ht hd
 obtain ⟨rfl,rfl⟩:=Prod.mk.inj hx
 obtain ⟨a,ha,hr⟩:=h enc w E n cs xs hE (by omega) (by simpa using hxl) (fun i f hf=>hall i f (by simpa using hf)) (fun k hk=>hw k (by rw [DataW.weights,ht]; exact hk))
 exact ⟨a,ha,fun o=>by simpa using hr o⟩
theorem Dec.map {P:Program} {t:TypeId} {α β:Type} {c:α->List AV} {ok:α->Prop} {c':β->List AV} {ok':β->Prop} (h:Dec P t c ok) (g:α->β) (hc:∀ a,ok a->c' (g a)=c a) (hok:∀ a,ok a->ok' (g a)):Dec P t c' ok':=by
 intro H enc w E fuel cs d ps hE hd hw
 obtain ⟨a,ha,hr⟩:=h enc w E fuel cs d ps hE hd hw
 exact ⟨g a,hok a ha,fun o=>by rw [hc a ha]; exact hr o⟩
theorem Dec.arg {P:Program} {t:TypeId} {α:Type} {c:α->List AV} {ok:α->Prop} (h:Dec P t c ok) {H:Type} {enc:TypeId × Value->H} {w:World} {E:Env} (hE:∀ b,E.M b=w.heap[b]?) {v:Value} {d:DataW H} {ps:List MemPlace}
  (hd:DataW.Trod enc P w 0 (fun _=>true) true t v d ps) (hw:∀ n ∈ d.weights P t,n<=reachBytes):∃ a,ok a /\ ∀ o,RelL E o (c a) v.cells.toList:=by
 obtain ⟨fuel,hf⟩:=hd
 exact h enc w E fuel _ d ps hE hf hw
def envOf (w:World):Env:={ M:=fun b=>w.heap[b]?,blk:=fun _=>none,hdr:=fun _=>none,fns:=fun _ _=>False }
theorem heapOK_of (P:Program) (w:World):HeapOK (calleeCtx P (envOf w) w []) (envOf w) (Heap.of []) w where
 os:=rfl
 tape:=rfl
 output:=rfl
 size:=Nat.le_refl _
 pres:=fun _ _=>rfl
 mem:=fun _ _ h=>h
 le:=Env.le.refl _
 ext:=fun _ _ h => .inl h
 own:=fun id ob h=>by cases h
 sep:=fun i j k _ h=>absurd rfl h
theorem trodAll_below {H:Type} {enc:TypeId × Value->H} {P:Program} (hl:laidOutB P=true) {W W':World} (hb:Below W.heap.size W W'):∀ {ts:List TypeId} {vs:List Value} {ds:List (DataW H)} {ps:List MemPlace},
  (∀ t ∈ ts,P.readableRec t=true/\t < P.types.size)->DataW.TrodAll enc P W 0 (fun _=>true) true ts vs ds ps->(∀ x ∈ ps,x.block < W.heap.size) →
  DataW.TrodAll enc P W' 0 (fun b=>decide (b < W.heap.size)) true ts vs ds ps:=by
 intro ts
 induction ts with
 | nil =>
  intro vs ds ps _ h _
  obtain ⟨rfl,rfl,rfl⟩:=ChangeShapes.trodAll_nil h
  exact ChangeShapes.trodAll_mk0
 | cons t ts ih =>
  intro vs ds ps hr h hlt
  obtain ⟨v,vs',d,ds',p,q,rfl,rfl,rfl,hd,hrest⟩:=ChangeShapes.trodAll_cons h
  obtain ⟨h1,h2⟩:=hr t (List.mem_cons_self ..)
  exact ⟨p,q,Below.trod hl h1 h2 hd hb (fun x hx=>hlt x (List.mem_append_left _ hx)),ih (fun t ht=>hr t (List.mem_cons_of_mem _ ht)) hrest (fun x hx=>hlt x (List.mem_append_right _ hx)),rfl⟩
theorem law_contract {P:Program} (hl:laidOutB P=true) {f:FuncId} {fn:Func} {s:ChangeSpec} (hvars:s.vars = []) {tb:TypeId} (hres:fn.resultTypes = #[tb]) (htb:P.underlying tb=some .bool)
  (hread:∀ t ∈ fn.params.toList,P.readableRec t=true/\t < P.types.size)
  {H:Type} {enc:TypeId × Value->H} {W:World} {args:Array Value} {ds gs:List (DataW H)} {before:List MemPlace}
  (hfn:ds.length=fn.params.size->s.fn H ds = { results:=[.lit (.bool true)],args:=ds })
  (hW:DataW.Whole enc P fn.params.toList s.vars false W args.toList ds gs before) {sp:CallSpec} (ht:Triple P f sp) (hp:sp.pre) (hfo:∀ E,sp.fnok E) (hin:sp.hin = []) (hout:sp.hout = []) (hr:sp.res=bv true)
  (hla:args.toList.length=sp.args.length) (hra:∀ k,Rel (envOf W) true (sp.args.getD k .any) (args.toList.getD k undef)) :
  Calls P f args W fun e W' => ∃ v,e = .returned v/\s.post enc P fn false true false false W args v W':=by
 have hok:=heapOK_of P W
 have h:=ht.2 hp (envOf W) W args.toList (hfo _) (by rw [hin]; exact hok) hla hra
 refine (h (by rw [hout]; intro p hp; cases hp)).mono fun e W' hpost => ?_
 obtain ⟨v,E',he,hh,hv,_⟩:=hpost
 rw [hr] at hv
 have hvt:v = .bool true:=by cases hv; rfl
 subst hvt
 have hb:Below W.heap.size W W':=⟨hh.os,hh.tape,hh.output,hh.size,fun k hk=>hh.pres k (by
  rintro (hc | ⟨q,hq,_⟩)
  ·exact absurd hk (Nat.not_lt.2 hc)
  ·rw [hin] at hq; cases hq)⟩
 refine ⟨_,he,?_⟩
 have hW':=hW
 obtain ⟨p,q,hA,hV,rfl,hz,hnd⟩:=hW
 rw [hvars] at hV
 obtain ⟨rfl,rfl⟩:=ChangeShapes.trodVars_none hV
 have hlen:ds.length=fn.params.size:=by
  have:∀ {ts:List TypeId} {vs:List Value} {ds:List (DataW H)} {ps:List MemPlace},DataW.TrodAll enc P W 0 (fun _=>true) true ts vs ds ps->ds.length=ts.length:=by
   intro ts
   induction ts with
   | nil=>intro vs ds ps h; obtain ⟨_,rfl,_⟩:=ChangeShapes.trodAll_nil h; rfl
   | cons t ts ih=>intro vs ds ps h; obtain ⟨_,_,_,_,_,_,rfl,rfl,rfl,_,hr⟩:=ChangeShapes.trodAll_cons h; simp [ih hr]
  simpa using this hA
 refine ⟨ds,[],p ++ [],[],p,[],hW',?_,?_,?_,hb.frame _,fun h=>by cases h⟩
 ·rw [List.append_nil,hfn hlen,hres]
  exact ChangeShapes.trodAll_mk1 (shut_bool htb true)
 ·rw [List.append_nil,hfn hlen]
  exact trodAll_below hl hb hread hA (fun x hx=>hW'.lt x (List.mem_append_left _ hx))
 ·rw [List.append_nil,hfn hlen,hvars]
  rfl
end Go.Ab
namespace Go.Ab
open Go Go.RowKit Go.Proofs Go.Sh Go.En
theorem dInt:Dec Try.prog 3 (fun n=>[iv n]) (fun n => -9223372036854775808<=n/\n<=9223372036854775807):=dec_int Try.underlying3
theorem dInts:Dec Try.prog 26 (fun l:List Int=>[aInts l]) (fun l=>l.length<=140737488355328) :=
 Dec.map (dec_slice (α:=Int) Try.underlying26 (by kernel_rfl) (by decide) (Nat.lt_of_lt_of_eq (by decide:0 < 8) (by kernel_rfl)) dInt) id (fun _ _=>rfl) (fun _ h=>h.1)
set_option maxRecDepth 100000
theorem laidOut:laidOutB Try.prog=true:=by kernel_rfl
section
variable {H:Type} {enc:TypeId × Value->H} {W:World} {base:Nat} {v:Value} {d:DataW H} {ps:List MemPlace}
theorem arg_struct {t:TypeId} {fs:Array Field} {α:Type} {c:α->List AV} {ok:α->Prop} (ht:Try.prog.underlying t=some (.struct fs)) (hD:Dec Try.prog t c ok) (hval:Value.okWide Try.prog W .any base t v) (hd:DataW.Trod enc Try.prog W 0 (fun _=>true) true t v d ps) (hw:∀ n ∈ d.weights Try.prog t,n<=reachBytes) :
  ∃ a,ok a/\Rel (envOf W) true (.agg (c a)) v:=by
 unfold Value.okWide at hval
 rw [ht] at hval
 obtain ⟨cs,rfl,_⟩:=hval
 obtain ⟨a,ha,hr⟩:=hD.arg (E:=envOf W) (fun _=>rfl) hd hw
 refine ⟨a,ha,?_⟩
 have h:=Rel.agg (hr true)
 simpa [Value.cells] using h
theorem arg_int (hval:Value.okWide Try.prog W .any base 3 v) (hd:DataW.Trod enc Try.prog W 0 (fun _=>true) true 3 v d ps):∃ n:Int,(-9223372036854775808<=n/\n<=9223372036854775807)/\Rel (envOf W) true (iv n) v:=by
 obtain ⟨n,rfl,_,_,hw⟩:=ChangeShapes.open_int Try.underlying3 hval hd
 exact ⟨n,lit_wf hw,.lit _⟩
end
theorem weights_part {H:Type} {ts:List TypeId} {ds:List (DataW H)} (h:(DataW.weightsEach Try.prog ts ds).all (· <= reachBytes)=true) {j:Nat} {t:TypeId} {d:DataW H} (ht:ts[j]? = some t) (hd:ds[j]? = some d):∀ n ∈ d.weights Try.prog t,n<=reachBytes:=by
 intro n hn
 have:=List.all_eq_true.1 h _ (DataW.weights_mem_each ht hd n hn)
 simpa using this
def ArgD (t:TypeId) (α:Type) (c:α->AV) (ok:α->Prop):Prop :=
 (Try.prog.readableRec t=true/\t < Try.prog.types.size) /\ ∀ {H:Type} {enc:TypeId × Value->H} {W:World} {base:Nat} {v:Value} {d:DataW H} {ps:List MemPlace},Value.okWide Try.prog W .any base t v->DataW.Trod enc Try.prog W 0 (fun _=>true) true t v d ps->(∀ n ∈ d.weights Try.prog t,n<=reachBytes) -> ∃ a,ok a/\Rel (envOf W) true (c a) v
abbrev i64 (n:Int):Prop := -9223372036854775808<=n/\n<=9223372036854775807
theorem argInt:ArgD 3 Int iv i64:=⟨⟨by kernel_rfl,of_decide_eq_true (by kernel_rfl)⟩,fun hv hd _=>arg_int hv hd⟩
theorem argStruct {t:TypeId} {fs:Array Field} {α:Type} {c:α->List AV} {ok:α->Prop} (ht:Try.prog.underlying t=some (.struct fs)) (hr:Try.prog.readableRec t=true/\t < Try.prog.types.size) (hD:Dec Try.prog t c ok):ArgD t α (fun a => .agg (c a)) ok:=⟨hr,fun hv hd hw=>arg_struct ht hD hv hd hw⟩
theorem law_two {f:FuncId} {fn:Func} {s:ChangeSpec} {t1 t2:TypeId} {α β:Type} {c1:α->AV} {c2:β->AV} {ok1:α->Prop} {ok2:β->Prop} (h1:ArgD t1 α c1 ok1) (h2:ArgD t2 β c2 ok2)
  (hps:fn.params = #[t1,t2]) (hres:fn.resultTypes = #[4]) (hvars:s.vars = []) (hfn:∀ (H:Type) (d1 d2:DataW H),s.fn H [d1,d2] = { results:=[.lit (.bool true)],args:=[d1,d2] })
  (sp:α->β->CallSpec) (ht:∀ r a,Triple Try.prog f (sp r a)) (hargs:∀ r a,(sp r a).args = [c1 r,c2 a]) (hpre:∀ r a,ok1 r->ok2 a->(sp r a).pre)
  (hfo:∀ r a E,(sp r a).fnok E) (hin:∀ r a,(sp r a).hin = []) (hout:∀ r a,(sp r a).hout = []) (hr:∀ r a,(sp r a).res=bv true)
  {H:Type} {enc:TypeId × Value->H} {W:World} {base:Nat} {args:Array Value} {ds gs:List (DataW H)} {before:List MemPlace}
  (hval:∀ (j:Nat) t v,fn.params[j]? = some t->args[j]? = some v->Value.okWide Try.prog W .any base t v) (hW:DataW.Whole enc Try.prog fn.params.toList s.vars false W args.toList ds gs before)
  (hsz:(DataW.weightsEach Try.prog (fn.params.toList ++ s.plain.varTypes Try.prog) (ds ++ gs)).all (· <= reachBytes)=true) :
  Calls Try.prog f args W fun e W' => ∃ v,e = .returned v/\s.post enc Try.prog fn false true false false W args v W':=by
 have hW':=hW
 obtain ⟨p,q,hA,_,_,_,_⟩:=hW
 rw [hps] at hA hval hsz
 obtain ⟨v0,v1,d0,d1,p0,p1,rfl,rfl,rfl,g0,g1⟩:=ChangeShapes.trodAll_two hA
 obtain ⟨r,hr0,r0⟩:=h1.2 (hval 0 t1 v0 rfl rfl) g0 (weights_part hsz (j:=0) rfl rfl)
 obtain ⟨a,ha,r1⟩:=h2.2 (hval 1 t2 v1 rfl rfl) g1 (weights_part hsz (j:=1) rfl rfl)
 refine law_contract laidOut hvars hres Try.underlying4 (fun t htt => ?_) (fun _=>hfn H d0 d1) hW' (ht r a) (hpre r a hr0 ha) (hfo r a) (hin r a) (hout r a) (hr r a) (by rw [hargs]; rfl) (fun k => ?_)
 ·rw [hps] at htt
  have:t=t1 ∨ t=t2:=by simpa using htt
  rcases this with rfl | rfl
  ·exact h1.1
  ·exact h2.1
 ·rw [hargs]
  rcases k with _ | _ | k
  ·exact r0
  ·exact r1
  ·exact .any _
end Go.Ab
namespace Go.Ab
open Go Go.RowKit Go.Proofs Go.Sh Go.En
set_option maxRecDepth 100000
theorem dThg:Dec Try.prog 43 cThg (fun _=>True) :=
 Dec.map (dec_struct Try.underlying43 (sz:=4) (by kernel_rfl) (decFs_cons (mid:=1) rfl rfl (by kernel_rfl) dInt (decFs_cons (mid:=2) rfl rfl (by kernel_rfl) dInt (decFs_cons (mid:=3) rfl rfl (by kernel_rfl) dInt (decFs_cons (mid:=4) rfl rfl (by kernel_rfl) dInt decFs_nil))))) (fun p=>(⟨p.1,p.2.1,p.2.2.1,p.2.2.2.1⟩:Thg)) (fun _ _=>rfl) (fun _ _=>trivial)
theorem dMrk:Dec Try.prog 36 cMrk (fun _=>True) :=
 Dec.map (dec_struct Try.underlying36 (sz:=3) (by kernel_rfl) (decFs_cons (mid:=1) rfl rfl (by kernel_rfl) dInt (decFs_cons (mid:=2) rfl rfl (by kernel_rfl) dInt (decFs_cons (mid:=3) rfl rfl (by kernel_rfl) dInt decFs_nil)))) (fun p=>(⟨p.1,p.2.1,p.2.2.1⟩:Mrk)) (fun _ _=>rfl) (fun _ _=>trivial)
theorem dThgs:Dec Try.prog 22 (fun l:List Thg=>[.sl 4 l.length (fun i=>cThg (l.getD i default))]) (fun l=>l.length<=140737488355328 /\ ∀ m,m ∈ l->True) :=
 dec_slice (α:=Thg) Try.underlying22 (by kernel_rfl) (by decide) (Nat.lt_of_lt_of_eq (by decide:0 < 32) (by kernel_rfl)) dThg
theorem dMrks:Dec Try.prog 23 (fun l:List Mrk=>[aMrks l]) (fun l=>l.length<=140737488355328 /\ ∀ m,m ∈ l->True) :=
 dec_slice (α:=Mrk) Try.underlying23 (by kernel_rfl) (by decide) (Nat.lt_of_lt_of_eq (by decide:0 < 24) (by kernel_rfl)) dMrk
theorem dHs:Dec Try.prog 25 cHs fitsH:=by
 refine Dec.map (dec_struct Try.underlying25 (sz:=2) (by kernel_rfl) (decFs_cons (mid:=1) rfl rfl (by kernel_rfl) dThgs (decFs_cons (mid:=2) rfl rfl (by kernel_rfl) dMrks decFs_nil))) (fun p=>(⟨p.1,p.2.1⟩:Hs)) (fun _ _=>rfl) (fun p h => ?_)
 obtain ⟨⟨h1,_⟩,⟨h2,_⟩,_⟩:=h
 exact ⟨Nat.le_trans h1 (by decide),Nat.le_trans h2 (by decide)⟩
theorem dTwn:Dec Try.prog 28 cTwn fitsT:=by
 refine Dec.map (dec_struct Try.underlying28 (sz:=6) (by kernel_rfl) (decFs_cons (mid:=2) rfl rfl (by kernel_rfl) dHs (decFs_cons (mid:=3) rfl rfl (by kernel_rfl) dInts (decFs_cons (mid:=4) rfl rfl (by kernel_rfl) dInts (decFs_cons (mid:=5) rfl rfl (by kernel_rfl) dInts (decFs_cons (mid:=6) rfl rfl (by kernel_rfl) dInt decFs_nil)))))) (fun p=>(⟨p.1,p.2.1,p.2.2.1,p.2.2.2.1,p.2.2.2.2.1⟩:Twn)) (fun _ _=>rfl) (fun p h => ?_)
 obtain ⟨h1,h2,h3,h4,_⟩:=h
 exact ⟨h1,Nat.le_trans h2 (by decide),Nat.le_trans h3 (by decide),Nat.le_trans h4 (by decide)⟩
theorem argTwn:ArgD 28 Twn (fun t=>vTwn t) fitsT:=argStruct Try.underlying28 ⟨by kernel_rfl,of_decide_eq_true (by kernel_rfl)⟩ dTwn
end Go.Ab
namespace Go.Proofs.Ytebodmfjbfiljaa
open Go Go.Ab Go.Sh Go.En Go.RowKit
set_option maxRecDepth 100000
theorem own:ownKnob Try.prog.godebug=none:=by kernel_rfl
def nilArgs:Array Value := #[.agg #[.slice none 0 0,.slice none 0 0,.slice none 0 0,.slice none 0 0,.slice none 0 0,.int .i64 0],.int .i64 0]
theorem lifted (os:Os) (started:os.Started) (H:Type) (enc:TypeId × Value->H) :
  ReturnsInHanded {} Try.checked os 3 .any (Rows.topAlteredSpec.pre6 enc Try.prog Try.f3 Rows.topAlteredRow.domain false) (Rows.topAlteredSpec.post enc Try.prog Try.f3 false true false false):=by
 refine returnsInHanded_of_change_sized (C:=Try.checked) own started (by kernel_rfl) Try.func3
  (ChangeSpec.witness6 (enc:=enc) (C:=Try.checked) false ⟨#[],nilArgs,[]⟩ 8 (by kernel_rfl) (by kernel_rfl) (by kernel_rfl) (by kernel_rfl)) ?_
 intro W base args ds gs before hval hW _ hsz _
 exact law_two argTwn argInt rfl rfl rfl (fun _ _ _=>rfl) s3 t3 (fun _ _=>rfl) (fun _ _ h0 h1=>h0) (fun _ _ _=>trivial) (fun _ _=>rfl) (fun _ _=>rfl) (fun _ _=>rfl) hval hW hsz
theorem proved:Rows.TopAlteredSaid :=
 OpenClaim.holds_of_wide 3 Try.f3 rfl rfl rfl rfl rfl rfl rfl ⟨rfl,rfl,rfl,rfl,rfl⟩ rfl rfl rfl rfl rfl (by kernel_rfl) Try.func3 (by kernel_rfl)
  (of_decide_eq_true (by kernel_rfl)) (by unfold Func.isWrapper; first | (rw [if_pos (by decide +kernel)]; kernel_rfl) | (rw [if_neg (by decide +kernel)]; exact ⟨rfl,rfl⟩))
  (fun os started H enc _=>lifted os started H enc)
end Go.Proofs.Ytebodmfjbfiljaa
