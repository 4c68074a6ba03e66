/- Part 4 of the proof: own library, plain forms and walks. -/
import Derived.Test.YtebodmfjbfiljaaGreatQTopRefused3
set_option linter.all false
set_option linter.deprecated false
namespace Go.Ab
open Go Go.RowKit Go.Proofs Go.Sh Go.En
theorem w77 (f:Frm) (left:List Int)
  (o0:AV.rp [AV.sl 1 left.length fun (i:Nat)=>[iv (left.getD i 0)]]=AV.rp [Ja6 left]) :
  Ja4 Tryz.prog 77 (s77 f left):=by
 refine Ja7 Tryz.func77 rfl Tryz.call77 Jaw _ rfl rfl rfl rfl (Nat.le_of_ble_eq_true (by kernel_rfl)) (fun _ _ _ _ h=>h) ?_
 intro _ C hC _ hE
 obtain ⟨P,w0,E0,av,hA,ro,df⟩:=C
 obtain ⟨rfl,rfl,rfl⟩:=hC
 refine Ja0 ?_
 refine zC ([(1,Joi)]) [3] [] (Ak 3 tv) ?_
 refine Ja0 ?_
 refine zR [4] [] (Ak 2 tv) ?_
 refine Ja5 ?_
 exact zT [] (An (Ak 1 tv) (An (An (zr 93) (An (An (o0) (zr nilN)) tv)) (An (zr true) (An (zr true) (zr true)))))
theorem t77 (f:Frm) (left:List Int):Ja4 Tryz.prog 77 (s77 f left):=by
 apply w77
 all_goals (try ((repeat intro _) <;> (try simp only [Bool.cond_true_left,Bool.cond_false_right,Bool.not_not,Bool.not_eq_true',Bool.not_eq_false',Bool.or_eq_true,Bool.or_eq_false_iff,Bool.and_eq_true,decide_eq_true_eq,decide_eq_false_iff_not,inI,big,Jba,Jai,Jbn] at *) <;> first | (exact rfl) | omega | (exact ⟨Nat.zero_le _,fun j hj=>absurd hj (Nat.not_lt_zero j)⟩) | (simp_all; done) | (simp_all; omega)))
abbrev q2d (f:Frm) (rooms:List Span) (left:List Int) (Pq:Prop):Prop:=Sound f/\GoodLeft f left/\rooms.length<=3->Pq
abbrev q2e (f:Frm) (rooms:List Span) (left:List Int) (Pq:Prop):Prop:=q2d f rooms left (decide ((↑(rooms.length):Int)=0)=false->Pq)
abbrev q2f (left:List Int) (x3:Nat) (Pq:Prop):Prop:=x3 < Jak left->Pq
abbrev q2g (left:List Int) (x3:Nat) (x6:Nat) (Pq:Prop):Prop:=(x6<=left.length /\ ∀ (q:Nat),left.length - x6<=q->q < left.length->(setN left x3).getD q 0=left.getD q 0)->Pq
abbrev q2h (left:List Int) (x3:Nat) (x6:Nat) (Pq:Prop):Prop:=q2g left x3 x6 (decide (0<=(↑(left.length):Int) - 1 - (x6:Int))=true->Pq)
abbrev q2i (left:List Int) (x3:Nat) (x6:Nat) (Pq:Prop):Prop:=q2g left x3 x6 ((bif decide (0<=(↑(left.length):Int) - 1 - (x6:Int)) then decide (rowO left x3 ((↑(left.length):Int) - 1 - (x6:Int)) ((↑(left.length):Int) - 1 - (x6:Int)).toNat=left.getD ((↑(left.length):Int) - 1 - (x6:Int)).toNat 0) else false)=true->Pq)
abbrev q2j (left:List Int) (x3:Nat) (x6:Nat) (Pq:Prop):Prop:=q2g left x3 x6 ((bif decide (0<=(↑(left.length):Int) - 1 - (x6:Int)) then decide (rowO left x3 ((↑(left.length):Int) - 1 - (x6:Int)) ((↑(left.length):Int) - 1 - (x6:Int)).toNat=left.getD ((↑(left.length):Int) - 1 - (x6:Int)).toNat 0) else false)=false->Pq)
abbrev q2k (left:List Int) (x3:Nat) (x6:Nat) (Pq:Prop):Prop:=q2j left x3 x6 (decide ((↑(left.length):Int) - 1 - (x6:Int) < 0)=true->Pq)
abbrev q2l (left:List Int) (x3:Nat) (x6:Nat) (Pq:Prop):Prop:=q2j left x3 x6 (decide ((↑(left.length):Int) - 1 - (x6:Int) < 0)=false->Pq)
abbrev q2m (left:List Int) (j2:Nat) (Pq:Prop):Prop:=j2 < Jak left->True->Pq
abbrev q2n (f:Frm) (rooms:List Span) (left:List Int) (j2:Nat) (Pq:Prop):Prop:=q2m left j2 ((!Ja1 (JaA f (setN left j2)) (rooms.getD 0 (Span.mk 0 0)).lo (rooms.getD 0 (Span.mk 0 0)).hi)=true->Pq)
abbrev q2o (f:Frm) (rooms:List Span) (left:List Int) (j2:Nat) (Pq:Prop):Prop:=q2m left j2 ((!Ja1 (JaA f (setN left j2)) (rooms.getD 0 (Span.mk 0 0)).lo (rooms.getD 0 (Span.mk 0 0)).hi)=false->Pq)
abbrev q2p (left:List Int) (x44:Nat) (Pq:Prop):Prop:=x44<=left.length->Pq
abbrev q2q (left:List Int) (j2:Nat) (x44:Nat) (Pq:Prop):Prop:=q2p left x44 (decide ((x44:Int) < (↑((setN left j2).length):Int))=true->Pq)
abbrev q2r (left:List Int) (j2:Nat) (x44:Nat) (Pq:Prop):Prop:=q2p left x44 (decide ((x44:Int) < (↑((setN left j2).length):Int))=false->Pq)
abbrev q2s (f:Frm) (rooms:List Span) (left:List Int) (j2:Nat) (x44:Nat) (Pq:Prop):Prop:=q2r left j2 x44 ((!!Option.isSome (Jav f (List.drop 1 rooms) (Jaq left (setN left j2))) && !!Option.isSome (Jag f rooms left j2))=true->Pq)
abbrev q2t (f:Frm) (rooms:List Span) (left:List Int) (j2:Nat) (x44:Nat) (Pq:Prop):Prop:=q2r left j2 x44 ((bif !!Option.isSome (Jav f (List.drop 1 rooms) (Jaq left (setN left j2))) then bif !Option.isSome (Jag f rooms left j2) then true else decide (Jdf (setN left j2) x44 + layM (Jav f (List.drop 1 rooms) (Jaq left (setN left j2))) < layM (Jag f rooms left j2)) else false)=true->Pq)
abbrev q2u (f:Frm) (rooms:List Span) (left:List Int) (j2:Nat) (x44:Nat) (Pq:Prop):Prop:=q2r left j2 x44 ((bif !!Option.isSome (Jav f (List.drop 1 rooms) (Jaq left (setN left j2))) then bif !Option.isSome (Jag f rooms left j2) then true else decide (Jdf (setN left j2) x44 + layM (Jav f (List.drop 1 rooms) (Jaq left (setN left j2))) < layM (Jag f rooms left j2)) else false)=false->Pq)
theorem w66 (f:Frm) (rooms:List Span) (left:List Int)
 (o0:q2d f rooms left (decide ((↑(rooms.length):Int)=0)=true->Option.isSome (Jav f rooms left)=true))
 (o1:q2d f rooms left (decide ((↑(rooms.length):Int)=0)=true->(layS (Jav f rooms left)).length=0))
 (o2:q2d f rooms left (decide ((↑(rooms.length):Int)=0)=true->0=layM (Jav f rooms left)))
 (o3:q2e f rooms left (0<=(↑(left.length):Int)))
 (o4:q2e f rooms left ((↑(left.length):Int)<=65536))
 (o5:q2e f rooms left (Option.isSome (Jag f rooms left 0)=false))
 (o6:q2e f rooms left (left.length=(setN left 0).length))
 (o7:q2e f rooms left (∀ (i4:Nat),i4 < left.length -> [iv 0] = [iv ((setN left 0).getD i4 0)]))
 (o8:q2e f rooms left (0 < Jak left))
 (o9:q2e f rooms left (∀ (x3:Nat),q2f left x3 (inI ((↑((setN left x3).length):Int) - 1))))
 (o10:q2e f rooms left (∀ (x3:Nat),q2f left x3 ((↑((setN left x3).length):Int) - 1=(↑(left.length):Int) - 1 - (↑0:Int))))
 (o11:q2e f rooms left (∀ (x3:Nat),q2f left x3 ((setN left x3).length=left.length)))
 (o12:q2e f rooms left (∀ (x3:Nat),q2f left x3 (∀ (i7:Nat),i7 < (setN left x3).length -> [iv ((setN left x3).getD i7 0)] = [iv (rowO left x3 ((↑(left.length):Int) - 1 - (↑0:Int)) i7)])))
 (o13:q2e f rooms left (∀ (x3:Nat),q2f left x3 (0<=left.length /\ ∀ (q:Nat),left.length - 0<=q->q < left.length->(setN left x3).getD q 0=left.getD q 0)))
 (o14:q2e f rooms left (∀ (x3:Nat),q2f left x3 (∀ (x6:Nat),q2h left x3 x6 (0<=(↑(left.length):Int) - 1 - (x6:Int)))))
 (o15:q2e f rooms left (∀ (x3:Nat),q2f left x3 (∀ (x6:Nat),q2h left x3 x6 ((↑(left.length):Int) - 1 - (x6:Int) < (↑(left.length):Int)))))
 (o16:q2e f rooms left (∀ (x3:Nat),q2f left x3 (∀ (x6:Nat),q2h left x3 x6 (((↑(left.length):Int) - 1 - (x6:Int)).toNat < left.length))))
 (o17:q2e f rooms left (∀ (x3:Nat),q2f left x3 (∀ (x6:Nat),q2h left x3 x6 (0<=(↑(left.length):Int) - 1 - (x6:Int)))))
 (o18:q2e f rooms left (∀ (x3:Nat),q2f left x3 (∀ (x6:Nat),q2h left x3 x6 ((↑(left.length):Int) - 1 - (x6:Int) < (↑(left.length):Int)))))
 (o19:q2e f rooms left (∀ (x3:Nat),q2f left x3 (∀ (x6:Nat),q2i left x3 x6 (0<=(↑(left.length):Int) - 1 - (x6:Int)))))
 (o20:q2e f rooms left (∀ (x3:Nat),q2f left x3 (∀ (x6:Nat),q2i left x3 x6 ((↑(left.length):Int) - 1 - (x6:Int) < (↑(left.length):Int)))))
 (o21:q2e f rooms left (∀ (x3:Nat),q2f left x3 (∀ (x6:Nat),q2i left x3 x6 (((↑(left.length):Int) - 1 - (x6:Int)).toNat < left.length))))
 (o22:q2e f rooms left (∀ (x3:Nat),q2f left x3 (∀ (x6:Nat),q2i left x3 x6 (inI ((↑(left.length):Int) - 1 - (x6:Int) - 1)))))
 (o23:q2e f rooms left (∀ (x3:Nat),q2f left x3 (∀ (x6:Nat),q2i left x3 x6 ((↑(left.length):Int) - 1 - (x6:Int) - 1=(↑(left.length):Int) - 1 - (↑(x6 + 1):Int)))))
 (o24:q2e f rooms left (∀ (x3:Nat),q2f left x3 (∀ (x6:Nat),q2i left x3 x6 (∀ (i29:Nat),i29 < left.length->Decidable.rec (fun (h:¬i29=((↑(left.length):Int) - 1 - (x6:Int)).toNat)=>[iv (rowO left x3 ((↑(left.length):Int) - 1 - (x6:Int)) i29)]) (fun (h:i29=((↑(left.length):Int) - 1 - (x6:Int)).toNat)=>[iv 0] ++ []) (instDecidableEqNat i29 ((↑(left.length):Int) - 1 - (x6:Int)).toNat) = [iv (rowO left x3 ((↑(left.length):Int) - 1 - (↑(x6 + 1):Int)) i29)]))))
 (o25:q2e f rooms left (∀ (x3:Nat),q2f left x3 (∀ (x6:Nat),q2i left x3 x6 (x6 + 1<=left.length /\ ∀ (q:Nat),left.length - (x6 + 1)<=q->q < left.length->(setN left x3).getD q 0=left.getD q 0))))
 (o26:q2e f rooms left (∀ (x3:Nat),q2f left x3 (∀ (x6:Nat),q2i left x3 x6 (left.length - (x6 + 1) < left.length - x6))))
 (o27:q2e f rooms left (∀ (x3:Nat),q2f left x3 (∀ (x6:Nat),q2k left x3 x6 (Option.isSome (Jag f rooms left (x3 + 1))=Option.isSome (Jag f rooms left (Jak left))))))
 (o28:q2e f rooms left (∀ (x3:Nat),q2f left x3 (∀ (x6:Nat),q2k left x3 x6 (Option.isSome (Jag f rooms left (Jak left))=true->(layS (Jag f rooms left (x3 + 1))).length=(layS (Jag f rooms left (Jak left))).length))))
 (o29:q2e f rooms left (∀ (x3:Nat),q2f left x3 (∀ (x6:Nat),q2k left x3 x6 (Option.isSome (Jag f rooms left (Jak left))=true -> ∀ (i33:Nat),i33 < (layS (Jag f rooms left (Jak left))).length -> [Ja6 ((layS (Jag f rooms left (x3 + 1))).getD i33 [])] = [Ja6 ((layS (Jag f rooms left (Jak left))).getD i33 [])]))))
 (o30:q2e f rooms left (∀ (x3:Nat),q2f left x3 (∀ (x6:Nat),q2k left x3 x6 (Option.isSome (Jag f rooms left (Jak left))=true->layM (Jag f rooms left (x3 + 1))=layM (Jag f rooms left (Jak left))))))
 (o31:q2e f rooms left (∀ (x3:Nat),q2f left x3 (∀ (x6:Nat),q2l left x3 x6 (0<=(↑(left.length):Int) - 1 - (x6:Int)))))
 (o32:q2e f rooms left (∀ (x3:Nat),q2f left x3 (∀ (x6:Nat),q2l left x3 x6 ((↑(left.length):Int) - 1 - (x6:Int) < (↑(left.length):Int)))))
 (o33:q2e f rooms left (∀ (x3:Nat),q2f left x3 (∀ (x6:Nat),q2l left x3 x6 (((↑(left.length):Int) - 1 - (x6:Int)).toNat < left.length))))
 (o34:q2e f rooms left (∀ (x3:Nat),q2f left x3 (∀ (x6:Nat),q2l left x3 x6 (inI (rowO left x3 ((↑(left.length):Int) - 1 - (x6:Int)) ((↑(left.length):Int) - 1 - (x6:Int)).toNat + 1)))))
 (o35:q2e f rooms left (∀ (x3:Nat),q2f left x3 (∀ (x6:Nat),q2l left x3 x6 (0<=(↑(left.length):Int) - 1 - (x6:Int)))))
 (o36:q2e f rooms left (∀ (x3:Nat),q2f left x3 (∀ (x6:Nat),q2l left x3 x6 ((↑(left.length):Int) - 1 - (x6:Int) < (↑(left.length):Int)))))
 (o37:q2e f rooms left (∀ (x3:Nat),q2f left x3 (∀ (x6:Nat),q2l left x3 x6 (((↑(left.length):Int) - 1 - (x6:Int)).toNat < left.length))))
 (o38:q2e f rooms left (∀ (x3:Nat),q2f left x3 (∀ (x6:Nat),q2l left x3 x6 (left.length=(setN left (x3 + 1)).length))))
 (o39:q2e f rooms left (∀ (x3:Nat),q2f left x3 (∀ (x6:Nat),q2l left x3 x6 (∀ (i35:Nat),i35 < left.length->Decidable.rec (fun (h:¬i35=((↑(left.length):Int) - 1 - (x6:Int)).toNat)=>[iv (rowO left x3 ((↑(left.length):Int) - 1 - (x6:Int)) i35)]) (fun (h:i35=((↑(left.length):Int) - 1 - (x6:Int)).toNat)=>[iv (rowO left x3 ((↑(left.length):Int) - 1 - (x6:Int)) ((↑(left.length):Int) - 1 - (x6:Int)).toNat + 1)] ++ []) (instDecidableEqNat i35 ((↑(left.length):Int) - 1 - (x6:Int)).toNat) = [iv ((setN left (x3 + 1)).getD i35 0)]))))
 (o40:q2e f rooms left (∀ (x3:Nat),q2f left x3 (∀ (x6:Nat),q2l left x3 x6 (x3 + 1 < Jak left))))
 (o41:q2e f rooms left (∀ (x3:Nat),q2f left x3 (∀ (x6:Nat),q2l left x3 x6 (Jak left - (x3 + 1) < Jak left - x3))))
 (o42:q2e f rooms left (∀ (j2:Nat),q2m left j2 (isSet f (setN left j2)=true)))
 (o43:q2e f rooms left (∀ (j2:Nat),q2m left j2 (0 < (↑(rooms.length):Int))))
 (o44:q2e f rooms left (∀ (j2:Nat),q2m left j2 (0 < (↑(rooms.length):Int))))
 (o45:q2e f rooms left (∀ (j2:Nat),q2n f rooms left j2 (Option.isSome (Jag f rooms left j2)=Option.isSome (Jag f rooms left (j2 + 1)))))
 (o46:q2e f rooms left (∀ (j2:Nat),q2n f rooms left j2 (Option.isSome (Jag f rooms left (j2 + 1))=true->(layS (Jag f rooms left j2)).length=(layS (Jag f rooms left (j2 + 1))).length)))
 (o47:q2e f rooms left (∀ (j2:Nat),q2n f rooms left j2 (Option.isSome (Jag f rooms left (j2 + 1))=true -> ∀ (i41:Nat),i41 < (layS (Jag f rooms left (j2 + 1))).length -> [Ja6 ((layS (Jag f rooms left j2)).getD i41 [])] = [Ja6 ((layS (Jag f rooms left (j2 + 1))).getD i41 [])])))
 (o48:q2e f rooms left (∀ (j2:Nat),q2n f rooms left j2 (Option.isSome (Jag f rooms left (j2 + 1))=true->layM (Jag f rooms left j2)=layM (Jag f rooms left (j2 + 1)))))
 (o49:q2e f rooms left (∀ (j2:Nat),q2o f rooms left j2 (left.length<=60000)))
 (o50:q2e f rooms left (∀ (j2:Nat),q2o f rooms left j2 (0=Jdf (setN left j2) 0)))
 (o51:q2e f rooms left (∀ (j2:Nat),q2o f rooms left j2 (0=(↑0:Int))))
 (o52:q2e f rooms left (∀ (j2:Nat),q2o f rooms left j2 (∀ (i45:Nat),i45 < left.length -> [iv (left.getD i45 0)] = [iv (JbZ left (setN left j2) 0 i45)])))
 (o53:q2e f rooms left (∀ (j2:Nat),q2o f rooms left j2 (0<=left.length)))
 (o54:q2e f rooms left (∀ (j2:Nat),q2o f rooms left j2 (∀ (x44:Nat),q2q left j2 x44 (0<=(x44:Int)))))
 (o55:q2e f rooms left (∀ (j2:Nat),q2o f rooms left j2 (∀ (x44:Nat),q2q left j2 x44 ((x44:Int) < (↑((setN left j2).length):Int)))))
 (o56:q2e f rooms left (∀ (j2:Nat),q2o f rooms left j2 (∀ (x44:Nat),q2q left j2 x44 (x44 < (setN left j2).length))))
 (o57:q2e f rooms left (∀ (j2:Nat),q2o f rooms left j2 (∀ (x44:Nat),q2q left j2 x44 (0<=(x44:Int)))))
 (o58:q2e f rooms left (∀ (j2:Nat),q2o f rooms left j2 (∀ (x44:Nat),q2q left j2 x44 ((x44:Int) < (↑(left.length):Int)))))
 (o59:q2e f rooms left (∀ (j2:Nat),q2o f rooms left j2 (∀ (x44:Nat),q2q left j2 x44 (x44 < left.length))))
 (o60:q2e f rooms left (∀ (j2:Nat),q2o f rooms left j2 (∀ (x44:Nat),q2q left j2 x44 (inI (JbZ left (setN left j2) x44 x44 - (setN left j2).getD x44 0)))))
 (o61:q2e f rooms left (∀ (j2:Nat),q2o f rooms left j2 (∀ (x44:Nat),q2q left j2 x44 (0<=(x44:Int)))))
 (o62:q2e f rooms left (∀ (j2:Nat),q2o f rooms left j2 (∀ (x44:Nat),q2q left j2 x44 ((x44:Int) < (↑(left.length):Int)))))
 (o63:q2e f rooms left (∀ (j2:Nat),q2o f rooms left j2 (∀ (x44:Nat),q2q left j2 x44 (x44 < left.length))))
 (o64:q2e f rooms left (∀ (j2:Nat),q2o f rooms left j2 (∀ (x44:Nat),q2q left j2 x44 (inI (Jdf (setN left j2) x44 + (setN left j2).getD x44 0)))))
 (o65:q2e f rooms left (∀ (j2:Nat),q2o f rooms left j2 (∀ (x44:Nat),q2q left j2 x44 (inI ((x44:Int) + 1)))))
 (o66:q2e f rooms left (∀ (j2:Nat),q2o f rooms left j2 (∀ (x44:Nat),q2q left j2 x44 (Jdf (setN left j2) x44 + (setN left j2).getD x44 0=Jdf (setN left j2) (x44 + 1)))))
 (o67:q2e f rooms left (∀ (j2:Nat),q2o f rooms left j2 (∀ (x44:Nat),q2q left j2 x44 ((x44:Int) + 1=(↑(x44 + 1):Int)))))
 (o68:q2e f rooms left (∀ (j2:Nat),q2o f rooms left j2 (∀ (x44:Nat),q2q left j2 x44 (∀ (i48:Nat),i48 < left.length->Decidable.rec (fun (h:¬i48=x44)=>[iv (JbZ left (setN left j2) x44 i48)]) (fun (h:i48=x44)=>[iv (JbZ left (setN left j2) x44 x44 - (setN left j2).getD x44 0)] ++ []) (instDecidableEqNat i48 x44) = [iv (JbZ left (setN left j2) (x44 + 1) i48)]))))
 (o69:q2e f rooms left (∀ (j2:Nat),q2o f rooms left j2 (∀ (x44:Nat),q2q left j2 x44 (x44 + 1<=left.length))))
 (o70:q2e f rooms left (∀ (j2:Nat),q2o f rooms left j2 (∀ (x44:Nat),q2q left j2 x44 (left.length - (x44 + 1) < left.length - x44))))
 (o71:q2e f rooms left (∀ (j2:Nat),q2o f rooms left j2 (∀ (x44:Nat),q2r left j2 x44 (1<=(↑(rooms.length):Int)))))
 (o72:q2e f rooms left (∀ (j2:Nat),q2o f rooms left j2 (∀ (x44:Nat),q2r left j2 x44 (rooms.length - 1=(List.drop 1 rooms).length))))
 (o73:q2e f rooms left (∀ (j2:Nat),q2o f rooms left j2 (∀ (x44:Nat),q2r left j2 x44 (∀ (i50:Nat),i50 < (List.drop 1 rooms).length->Jb6 (rooms.getD (1 + i50) (Span.mk 0 0))=Jb6 ((List.drop 1 rooms).getD i50 (Span.mk 0 0))))))
 (o74:q2e f rooms left (∀ (j2:Nat),q2o f rooms left j2 (∀ (x44:Nat),q2r left j2 x44 (left.length=(Jaq left (setN left j2)).length))))
 (o75:q2e f rooms left (∀ (j2:Nat),q2o f rooms left j2 (∀ (x44:Nat),q2r left j2 x44 (∀ (i52:Nat),i52 < (Jaq left (setN left j2)).length -> [iv (JbZ left (setN left j2) x44 i52)] = [iv ((Jaq left (setN left j2)).getD i52 0)]))))
 (o76:q2e f rooms left (∀ (j2:Nat),q2o f rooms left j2 (∀ (x44:Nat),q2r left j2 x44 (Ja4 Tryz.prog 66 (c66r f rooms left j2)))))
 (o77:q2e f rooms left (∀ (j2:Nat),q2o f rooms left j2 (∀ (x44:Nat),q2r left j2 x44 (GoodLeft f (Jaq left (setN left j2))))))
 (o78:q2e f rooms left (∀ (j2:Nat),q2o f rooms left j2 (∀ (x44:Nat),q2r left j2 x44 ((List.drop 1 rooms).length<=3))))
 (o79:q2e f rooms left (∀ (j2:Nat),q2o f rooms left j2 (∀ (x44:Nat),q2s f rooms left j2 x44 (Option.isSome (Jav f (List.drop 1 rooms) (Jaq left (setN left j2)))=true))))
 (o80:q2e f rooms left (∀ (j2:Nat),q2o f rooms left j2 (∀ (x44:Nat),q2s f rooms left j2 x44 (Option.isSome (Jav f (List.drop 1 rooms) (Jaq left (setN left j2)))=true))))
 (o81:q2e f rooms left (∀ (j2:Nat),q2o f rooms left j2 (∀ (x44:Nat),q2s f rooms left j2 x44 (inI (Jdf (setN left j2) x44 + layM (Jav f (List.drop 1 rooms) (Jaq left (setN left j2))))))))
 (o82:q2e f rooms left (∀ (j2:Nat),q2o f rooms left j2 (∀ (x44:Nat),q2s f rooms left j2 x44 (Option.isSome (Jag f rooms left j2)=true))))
 (o83:q2e f rooms left (∀ (j2:Nat),q2o f rooms left j2 (∀ (x44:Nat),q2s f rooms left j2 x44 (Option.isSome (Jag f rooms left j2)=true))))
 (o84:q2e f rooms left (∀ (j2:Nat),q2o f rooms left j2 (∀ (x44:Nat),q2r left j2 x44 ((!!Option.isSome (Jav f (List.drop 1 rooms) (Jaq left (setN left j2))))=true->(!Option.isSome (Jag f rooms left j2))=false->(!!Option.isSome (Jav f (List.drop 1 rooms) (Jaq left (setN left j2))) && !!Option.isSome (Jag f rooms left j2))=true))))
 (o85:q2e f rooms left (∀ (j2:Nat),q2o f rooms left j2 (∀ (x44:Nat),q2t f rooms left j2 x44 ((setN left j2).length<=60000))))
 (o86:q2e f rooms left (∀ (j2:Nat),q2o f rooms left j2 (∀ (x44:Nat),q2t f rooms left j2 x44 (Option.isSome (Jav f (List.drop 1 rooms) (Jaq left (setN left j2)))=true))))
 (o87:q2e f rooms left (∀ (j2:Nat),q2o f rooms left j2 (∀ (x44:Nat),q2t f rooms left j2 x44 (Option.isSome (Jav f (List.drop 1 rooms) (Jaq left (setN left j2)))=true))))
 (o88:q2e f rooms left (∀ (j2:Nat),q2o f rooms left j2 (∀ (x44:Nat),q2t f rooms left j2 x44 (1 + (layS (Jav f (List.drop 1 rooms) (Jaq left (setN left j2)))).length<=65536))))
 (o89:q2e f rooms left (∀ (j2:Nat),q2o f rooms left j2 (∀ (x44:Nat),q2t f rooms left j2 x44 (Option.isSome (Jav f (List.drop 1 rooms) (Jaq left (setN left j2)))=true))))
 (o90:q2e f rooms left (∀ (j2:Nat),q2o f rooms left j2 (∀ (x44:Nat),q2t f rooms left j2 x44 (Option.isSome (Jav f (List.drop 1 rooms) (Jaq left (setN left j2)))=true))))
 (o91:q2e f rooms left (∀ (j2:Nat),q2o f rooms left j2 (∀ (x44:Nat),q2t f rooms left j2 x44 (inI (Jdf (setN left j2) x44 + layM (Jav f (List.drop 1 rooms) (Jaq left (setN left j2))))))))
 (o92:q2e f rooms left (∀ (j2:Nat),q2o f rooms left j2 (∀ (x44:Nat),q2t f rooms left j2 x44 (Option.isSome (Jag f rooms left (j2 + 1))=true))))
 (o93:q2e f rooms left (∀ (j2:Nat),q2o f rooms left j2 (∀ (x44:Nat),q2t f rooms left j2 x44 (1 + (layS (Jav f (List.drop 1 rooms) (Jaq left (setN left j2)))).length=(layS (Jag f rooms left (j2 + 1))).length))))
 (o94:q2e f rooms left (∀ (j2:Nat),q2o f rooms left j2 (∀ (x44:Nat),q2t f rooms left j2 x44 (∀ (i89:Nat),i89 < (layS (Jag f rooms left (j2 + 1))).length->catF 1 (fun (j:Nat)=>List.getD [[AV.sl 1 (setN left j2).length fun (i:Nat)=>[iv ((setN left j2).getD i 0)]]] j (TI.za ti27)) (fun (i:Nat)=>[Ja6 ((layS (Jav f (List.drop 1 rooms) (Jaq left (setN left j2)))).getD i [])]) i89 = [Ja6 ((layS (Jag f rooms left (j2 + 1))).getD i89 [])]))))
 (o95:q2e f rooms left (∀ (j2:Nat),q2o f rooms left j2 (∀ (x44:Nat),q2t f rooms left j2 x44 (Jdf (setN left j2) x44 + layM (Jav f (List.drop 1 rooms) (Jaq left (setN left j2)))=layM (Jag f rooms left (j2 + 1))))))
 (o96:q2e f rooms left (∀ (j2:Nat),q2o f rooms left j2 (∀ (x44:Nat),q2u f rooms left j2 x44 (Option.isSome (Jag f rooms left j2)=Option.isSome (Jag f rooms left (j2 + 1))))))
 (o97:q2e f rooms left (∀ (j2:Nat),q2o f rooms left j2 (∀ (x44:Nat),q2u f rooms left j2 x44 (Option.isSome (Jag f rooms left (j2 + 1))=true->(layS (Jag f rooms left j2)).length=(layS (Jag f rooms left (j2 + 1))).length))))
 (o98:q2e f rooms left (∀ (j2:Nat),q2o f rooms left j2 (∀ (x44:Nat),q2u f rooms left j2 x44 (Option.isSome (Jag f rooms left (j2 + 1))=true -> ∀ (i92:Nat),i92 < (layS (Jag f rooms left (j2 + 1))).length -> [Ja6 ((layS (Jag f rooms left j2)).getD i92 [])] = [Ja6 ((layS (Jag f rooms left (j2 + 1))).getD i92 [])]))))
 (o99:q2e f rooms left (∀ (j2:Nat),q2o f rooms left j2 (∀ (x44:Nat),q2u f rooms left j2 x44 (Option.isSome (Jag f rooms left (j2 + 1))=true->layM (Jag f rooms left j2)=layM (Jag f rooms left (j2 + 1))))))
 (o100:q2e f rooms left (Option.isSome (Jag f rooms left (Jak left))=Option.isSome (Jav f rooms left)))
 (o101:q2e f rooms left (Option.isSome (Jav f rooms left)=true->(layS (Jag f rooms left (Jak left))).length=(layS (Jav f rooms left)).length))
 (o102:q2e f rooms left (Option.isSome (Jav f rooms left)=true -> ∀ (i95:Nat),i95 < (layS (Jav f rooms left)).length -> [Ja6 ((layS (Jag f rooms left (Jak left))).getD i95 [])] = [Ja6 ((layS (Jav f rooms left)).getD i95 [])]))
 (o103:q2e f rooms left (Option.isSome (Jav f rooms left)=true->layM (Jag f rooms left (Jak left))=layM (Jav f rooms left))) :
  Ja4 Tryz.prog 66 (s66 f rooms left):=by
 refine Ja7 Tryz.func66 rfl Tryz.call66 Jaw _ rfl rfl rfl rfl (Nat.le_of_ble_eq_true (by kernel_rfl)) (fun _ _ _ _ h=>h) ?_
 intro hpre C hC _ hE
 obtain ⟨P,w0,E0,av,hA,ro,df⟩:=C
 obtain ⟨rfl,rfl,rfl⟩:=hC
 refine Ja0 ?_
 refine zR [3,4,5] [0,8,16] (Ak 4 tv) ?_
 refine Ja0 ?_
 refine Ja0 ?_
 refine zR [3,4,5,16] [0,8,16] (Ak 3 tv) ?_
 refine zI (decide ((↑(rooms.length):Int)=0)) (fun y0 => ?_) (fun y0 => ?_)
 ·refine Ja0 ?_
  refine zC ([(1,Joi)]) [6] [] (Ak 3 tv) ?_
  refine Ja5 ?_
  exact zT [] (An (Ak 1 tv) (An (An (o0 hpre y0) (An (o1 hpre y0) (An (ci (o2 hpre y0)) tv))) (An (zr true) (An (zr true) (zr true)))))
 ·refine Ja3 ?_
  refine Ja0 ?_
  refine zR [3,4,5,7] [0,8,16,56] (Ak 1 tv) ?_
  refine Ja0 ?_
  refine Ja0 ?_
  refine Jbi (zF 0) ?_
  refine Jbi (zF 8) ?_
  refine Jbi (zF 16) ?_
  refine zC ([(2,CallSpec.eq (s77 f left) [true,true])]) [3,4,5,7,21] [56] (Ak 2 (An (An (An (zr (AV.agg (cFrm f))) (An (zr (Ja6 left)) tv)) (An (t77 (f) (left)) (Ak 2 (fun (i1:Env)=>tv)))) tv)) ?_
  refine Ja2 ?_
  refine zG (r66 f rooms left) 88 2000088 0 [3,4,5,7] ([AV.rp [Ja6 left]]) Tryz.func93 Tryz.call93 rfl (fun C hC hY2 hE => ?_) (fun (j2:Nat) hj2 hp2 C hC hE => ?_) ?_
  ·obtain ⟨P,w0,E0,av,hA,ro,df⟩:=C
   subst hC
   refine Ja0 ?_
   refine zR [0,1,3] [56,104] (Ak 2 (An (An (zr ((↑(left.length):Int))) (An (o3 hpre y0) (o4 hpre y0))) (Ak 1 tv))) ?_
   refine Ja2 ?_
   refine zL (Hint.ann (h93a f rooms left) [(0,AV.fn 0),(1,AV.rp [Ja6 left])] [] 10120) (zEn 88 hE [] [(56,.same 56),(5000,.same 104)] [0,1] [] (An (An (An (zr (AV.fn 0)) (zr true)) (An (An (zr (AV.rp [Ja6 left])) (zr true)) (An (zr (some (Src.same 104))) tv))) (An (An (An (zr 93) (An (An (o5 hpre y0) tv) (zr true))) (An (An (zr 3) (An (zr 1) (An (o6 hpre y0) (fun (i4:Nat)=>(fun (y5:i4 < left.length)=>(o7 hpre y0 i4 y5)))))) tv)) (An (zr true) (zr true))))) (o8 hpre y0) (fun (x3:Nat) hx3 => ?_)
   refine Ja2 ?_
   refine Ja0 ?_
   refine Ja0 ?_
   refine zC ([(2,CallSpec.eq (y66 f rooms left x3) [true])]) [0,1,3,11] [56,5000] (Ak 2 (An (An (An (zr (AV.vec 5000)) tv) (An (hY2 x3 hx3) (Ak 1 (An (zr (some (OB.cells 93 [AV.opt (Option.isSome (Jag f rooms left x3)) (cLay (Jag f rooms left x3))]))) (An (zr (some (OB.vec 3 1 (setN left x3).length fun (i:Nat)=>[iv ((setN left x3).getD i 0)]))) tv))))) (Ak 1 tv))) ?_
   refine zf ?_
   refine Ja3 ?_
   refine Ja0 ?_
   refine zR [0,1,3,4] [56,5000] (Ak 2 (An (o9 hpre y0 x3 hx3) (Ak 1 tv))) ?_
   refine Ja0 ?_
   refine Ja2 ?_
   refine zL (Hint.ann (h93b f rooms left x3) [(0,AV.fn 0),(1,AV.rp [Ja6 left]),(3,AV.vec 5000)] [(56,OB.cells 93 [AV.opt (Option.isSome (Jag f rooms left (x3 + 1))) (cLay (Jag f rooms left (x3 + 1)))])] 20184) (zEn 88 hE [] [(56,.same 56),(5000,.same 5000)] [0,1] [56] (An (An (An (zr (AV.fn 0)) (zr true)) (An (An (zr (AV.rp [Ja6 left])) (zr true)) (An (zr (some (Src.same 5000))) (An (An (ci (o10 hpre y0 x3 hx3)) (zr nilN)) tv)))) (An (An (An (zr (OB.cells 93 [AV.opt (Option.isSome (Jag f rooms left (x3 + 1))) (cLay (Jag f rooms left (x3 + 1)))])) (zr true)) (An (An (zr 3) (An (zr 1) (An (o11 hpre y0 x3 hx3) (fun (i7:Nat)=>(fun (y8:i7 < (setN left x3).length)=>(o12 hpre y0 x3 hx3 i7 y8)))))) tv)) (An (zr true) (zr true))))) (o13 hpre y0 x3 hx3) (fun (x6:Nat) hx6 => ?_)
   refine Ja0 ?_
   refine Ja0 ?_
   refine zR [0,1,3,4,27] [56,5000] (Ak 3 (An (fun (y9:decide (0<=(↑(left.length):Int) - 1 - (x6:Int))=true)=>(An (Ak 1 tv) tv)) (An (fun (y10:decide (0<=(↑(left.length):Int) - 1 - (x6:Int))=true)=>(An (Ak 1 tv) tv)) (An (fun (y11:decide (0<=(↑(left.length):Int) - 1 - (x6:Int))=true)=>(An (An (fun (y12:decide (0<=(↑(left.length):Int) - 1 - (x6:Int))=true)=>y11) (An (fun (y13:decide (0<=(↑(left.length):Int) - 1 - (x6:Int))=true)=>y11) tv)) (An (o14 hpre y0 x3 hx3 x6 hx6 y11) (o15 hpre y0 x3 hx3 x6 hx6 y11)))) (An (fun (y14:decide (0<=(↑(left.length):Int) - 1 - (x6:Int))=true)=>(An (An (fun (y15:decide (0<=(↑(left.length):Int) - 1 - (x6:Int))=true)=>y14) tv) (An (o16 hpre y0 x3 hx3 x6 hx6 y14) tv))) (An (fun (y16:decide (0<=(↑(left.length):Int) - 1 - (x6:Int))=true)=>(An (Ak 1 tv) tv)) (An (fun (y17:decide (0<=(↑(left.length):Int) - 1 - (x6:Int))=true)=>(An (Ak 1 tv) tv)) (An (fun (y18:decide (0<=(↑(left.length):Int) - 1 - (x6:Int))=true)=>(An (An (fun (y19:decide (0<=(↑(left.length):Int) - 1 - (x6:Int))=true)=>y18) (An (fun (y20:decide (0<=(↑(left.length):Int) - 1 - (x6:Int))=true)=>y18) tv)) (An (o17 hpre y0 x3 hx3 x6 hx6 y18) (o18 hpre y0 x3 hx3 x6 hx6 y18)))) (An (fun (y21:decide (0<=(↑(left.length):Int) - 1 - (x6:Int))=true)=>(An (An (fun (y22:decide (0<=(↑(left.length):Int) - 1 - (x6:Int))=true)=>y21) tv) tv)) (An (fun (y23:decide (0<=(↑(left.length):Int) - 1 - (x6:Int))=true)=>(An (An (fun (y24:decide (0<=(↑(left.length):Int) - 1 - (x6:Int))=true)=>y23) (An (fun (y25:decide (0<=(↑(left.length):Int) - 1 - (x6:Int))=true)=>y23) tv)) tv)) (An (An (fun (y26:decide (0<=(↑(left.length):Int) - 1 - (x6:Int))=true)=>y26) (fun (y27:decide (0<=(↑(left.length):Int) - 1 - (x6:Int))=false)=>tv)) tv))))))))))) ?_
   refine zI (bif decide (0<=(↑(left.length):Int) - 1 - (x6:Int)) then decide (rowO left x3 ((↑(left.length):Int) - 1 - (x6:Int)) ((↑(left.length):Int) - 1 - (x6:Int)).toNat=left.getD ((↑(left.length):Int) - 1 - (x6:Int)).toNat 0) else false) (fun y28 => ?_) (fun y28 => ?_)
   ·refine Ja3 ?_
    refine Ja0 ?_
    refine Ja2 ?_
    refine zR [0,1,3,4] [56,5000] (Ak 2 (An (An (o19 hpre y0 x3 hx3 x6 hx6 y28) (o20 hpre y0 x3 hx3 x6 hx6 y28)) (An (An (o21 hpre y0 x3 hx3 x6 hx6 y28) tv) tv))) ?_
    refine zR [0,1,3,4] [56,5000] (Ak 1 (An (o22 hpre y0 x3 hx3 x6 hx6 y28) (Ak 1 tv))) ?_
    exact zn (zEn 88 hE [] [(56,.same 56),(5000,.same 5000)] [0,1] [56] (An (An (An (zr (AV.fn 0)) (zr true)) (An (An (zr (AV.rp [Ja6 left])) (zr true)) (An (zr (some (Src.same 5000))) (An (An (ci (o23 hpre y0 x3 hx3 x6 hx6 y28)) (zr nilN)) tv)))) (An (An (An (zr (OB.cells 93 [AV.opt (Option.isSome (Jag f rooms left (x3 + 1))) (cLay (Jag f rooms left (x3 + 1)))])) (zr true)) (An (An (zr 3) (An (zr 1) (An (zr left.length) (fun (i29:Nat)=>(fun (y30:i29 < left.length)=>(o24 hpre y0 x3 hx3 x6 hx6 y28 i29 y30)))))) tv)) (An (zr true) (zr true))))) (o25 hpre y0 x3 hx3 x6 hx6 y28) (o26 hpre y0 x3 hx3 x6 hx6 y28)
   ·refine Jaa ?_
    refine Ja0 ?_
    refine Ja0 ?_
    refine zR [0,1,3,4,34] [56,5000] (Ak 2 tv) ?_
    refine zI (decide ((↑(left.length):Int) - 1 - (x6:Int) < 0)) (fun y31 => ?_) (fun y31 => ?_)
    ·refine Ja5 ?_
     exact zM (zEn 88 hE [] [(56,.same 56)] [] [] (Ak 1 (An (An (An (zr 93) (An (An (An (o27 hpre y0 x3 hx3 x6 hx6 y28 y31) (fun (y32:Option.isSome (Jag f rooms left (Jak left))=true)=>(An (An (zr 1) (An (o28 hpre y0 x3 hx3 x6 hx6 y28 y31 y32) (fun (i33:Nat)=>(fun (y34:i33 < (layS (Jag f rooms left (Jak left))).length)=>(o29 hpre y0 x3 hx3 x6 hx6 y28 y31 y32 i33 y34))))) (An (ci (o30 hpre y0 x3 hx3 x6 hx6 y28 y31 y32)) tv)))) tv) (zr true))) tv) (An (zr true) (zr true)))))
    ·refine Ja3 ?_
     refine zR [0,1,3] [56,5000] (Ak 2 (An (An (o31 hpre y0 x3 hx3 x6 hx6 y28 y31) (o32 hpre y0 x3 hx3 x6 hx6 y28 y31)) (An (An (o33 hpre y0 x3 hx3 x6 hx6 y28 y31) tv) (An (o34 hpre y0 x3 hx3 x6 hx6 y28 y31) (An (An (o35 hpre y0 x3 hx3 x6 hx6 y28 y31) (o36 hpre y0 x3 hx3 x6 hx6 y28 y31)) (An (An (o37 hpre y0 x3 hx3 x6 hx6 y28 y31) tv) tv)))))) ?_
     exact zn (zEn 88 hE [] [(56,.same 56),(5000,.same 5000)] [0,1] [56] (An (An (An (zr (AV.fn 0)) (zr true)) (An (An (zr (AV.rp [Ja6 left])) (zr true)) (An (zr (some (Src.same 5000))) tv))) (An (An (An (zr (OB.cells 93 [AV.opt (Option.isSome (Jag f rooms left (x3 + 1))) (cLay (Jag f rooms left (x3 + 1)))])) (zr true)) (An (An (zr 3) (An (zr 1) (An (o38 hpre y0 x3 hx3 x6 hx6 y28 y31) (fun (i35:Nat)=>(fun (y36:i35 < left.length)=>(o39 hpre y0 x3 hx3 x6 hx6 y28 y31 i35 y36)))))) tv)) (An (zr true) (zr true))))) (o40 hpre y0 x3 hx3 x6 hx6 y28 y31) (o41 hpre y0 x3 hx3 x6 hx6 y28 y31)
  ·obtain ⟨P,w0,E0,av,hA,ro,df⟩:=C
   subst hC
   refine zR [3,4,5,7,8] [56,5000] (Ak 1 tv) ?_
   intro C hC hE
   obtain ⟨P,w0,E0,av,hA,ro,df⟩:=C
   subst hC
   refine Ja2 ?_
   refine Ja0 ?_
   refine Ja0 ?_
   refine zC ([(2,CallSpec.eq (c66p f rooms left j2) [true,true]),(11,CallSpec.eq (s57 (JaA f (setN left j2)) (rooms.getD 0 (Span.mk 0 0)).lo (rooms.getD 0 (Span.mk 0 0)).hi) [true,true,true])]) [3,4,5,7,8,35] [56,5000] (Ak 2 (An (An (An (zr (AV.agg (cFrm f))) (An (zr (AV.vec 5000)) tv)) (An (lendT 3 5000 1 (none) (t78 (f) (setN left j2))) (An (An hpre.1 (o42 hpre y0 j2 hj2 hp2)) (An (An (zr (some (OB.vec 3 1 (setN left j2).length fun (i:Nat)=>[iv ((setN left j2).getD i 0)]))) tv) (fun (i37:Env)=>tv))))) (Ak 1 (An (An (by decide:Int.ofNat 0<=Int.ofNat 0) (o43 hpre y0 j2 hj2 hp2)) (Ak 3 (An (An (by decide:Int.ofNat 0<=Int.ofNat 0) (o44 hpre y0 j2 hj2 hp2)) (Ak 2 (An (An (An (zr (iv (JaA f (setN left j2)))) (An (zr (iv (rooms.getD 0 (Span.mk 0 0)).lo)) (An (zr (iv (rooms.getD 0 (Span.mk 0 0)).hi)) tv))) (An (t57 (JaA f (setN left j2)) (rooms.getD 0 (Span.mk 0 0)).lo (rooms.getD 0 (Span.mk 0 0)).hi) (Ak 2 (fun (i38:Env)=>tv)))) (Ak 1 tv))))))))) ?_
   refine zI (!Ja1 (JaA f (setN left j2)) (rooms.getD 0 (Span.mk 0 0)).lo (rooms.getD 0 (Span.mk 0 0)).hi) (fun y39 => ?_) (fun y39 => ?_)
   ·refine Jaa ?_
    exact zN 1006000 (zEn 6000 hE [] [(56,.same 56),(5000,.same 5000)] [] [5000] (Ak 1 (An (An (An (zr 93) (An (An (An (o45 hpre y0 j2 hj2 hp2 y39) (fun (y40:Option.isSome (Jag f rooms left (j2 + 1))=true)=>(An (An (zr 1) (An (o46 hpre y0 j2 hj2 hp2 y39 y40) (fun (i41:Nat)=>(fun (y42:i41 < (layS (Jag f rooms left (j2 + 1))).length)=>(o47 hpre y0 j2 hj2 hp2 y39 y40 i41 y42))))) (An (ci (o48 hpre y0 j2 hj2 hp2 y39 y40)) tv)))) tv) (zr true))) (An (An (zr (OB.vec 3 1 (setN left j2).length fun (i:Nat)=>[iv ((setN left j2).getD i 0)])) (zr true)) tv)) (An (zr true) (zr true)))))
   ·refine Ja3 ?_
    refine Ja0 ?_
    refine zC ([(1,CallSpec.eq (c66c f rooms left j2) [true])]) [3,4,7,8,9,10] [56,5000,6120] (Ak 1 (An (An (An (zr (Ja6 left)) tv) (An (t62o (left) (6120)) (An (o49 hpre y0 j2 hj2 hp2 y39) (Ak 1 (fun (i43:Env)=>tv))))) (Ak 2 tv))) ?_
    refine Ja0 ?_
    refine Ja0 ?_
    refine zR [3,4,7,8,9,10,38,39,40] [56,5000,6120] (Ak 3 tv) ?_
    refine Ja2 ?_
    refine zL (Hint.ann (h66 f rooms left j2) [(3,AV.rp (cFrm f)),(4,AV.rp [Jhc rooms]),(7,AV.ptr 56 []),(8,AV.vec 5000),(38,AV.vec 5000),(39,iv (↑((setN left j2).length):Int))] [(56,OB.cells 93 [AV.opt (Option.isSome (Jag f rooms left j2)) (cLay (Jag f rooms left j2))]),(5000,OB.vec 3 1 (setN left j2).length fun (i:Nat)=>[iv ((setN left j2).getD i 0)])] 16168) (zEn 6000 hE [] [(56,.same 56),(5000,.same 5000),(6001,.same 6120)] [3,4,39] [56,5000] (An (An (An (zr (AV.rp (cFrm f))) (zr true)) (An (An (zr (AV.rp [Jhc rooms])) (zr true)) (An (An (zr (some (Src.same 56))) (zr nilP)) (An (zr (some (Src.same 5000))) (An (zr (some (Src.same 5000))) (An (An (zr (iv (↑((setN left j2).length):Int))) (zr true)) (An (zr (some (Src.same 6120))) (An (An (ci (o50 hpre y0 j2 hj2 hp2 y39)) (zr nilN)) (An (An (ci (o51 hpre y0 j2 hj2 hp2 y39)) (zr nilN)) tv))))))))) (An (An (An (zr (OB.cells 93 [AV.opt (Option.isSome (Jag f rooms left j2)) (cLay (Jag f rooms left j2))])) (zr true)) (An (An (zr (OB.vec 3 1 (setN left j2).length fun (i:Nat)=>[iv ((setN left j2).getD i 0)])) (zr true)) (An (An (zr 3) (An (zr 1) (An (zr left.length) (fun (i45:Nat)=>(fun (y46:i45 < left.length)=>(o52 hpre y0 j2 hj2 hp2 y39 i45 y46)))))) tv))) (An (zr true) (zr true))))) (o53 hpre y0 j2 hj2 hp2 y39) (fun (x44:Nat) hx44 => ?_)
    refine Ja0 ?_
    refine zR [3,4,7,8,38,39,9,10,40,41] [56,5000,6001] (Ak 1 tv) ?_
    refine Ja0 ?_
    refine zI (decide ((x44:Int) < (↑((setN left j2).length):Int))) (fun y47 => ?_) (fun y47 => ?_)
    ·refine Ja3 ?_
     refine Ja0 ?_
     refine Ja2 ?_
     refine Ja0 ?_
     refine zR [3,4,7,8,38,39,9,10,40,11,12] [56,5000,6001] (Ak 1 (An (An (o54 hpre y0 j2 hj2 hp2 y39 x44 hx44 y47) (o55 hpre y0 j2 hj2 hp2 y39 x44 hx44 y47)) (An (An (o56 hpre y0 j2 hj2 hp2 y39 x44 hx44 y47) tv) (Ak 2 tv)))) ?_
     refine Ja0 ?_
     refine zR [3,4,7,8,38,39,9,10,40,12] [56,5000,6001] (Ak 2 (An (An (o57 hpre y0 j2 hj2 hp2 y39 x44 hx44 y47) (o58 hpre y0 j2 hj2 hp2 y39 x44 hx44 y47)) (An (An (o59 hpre y0 j2 hj2 hp2 y39 x44 hx44 y47) tv) (Ak 1 (An (o60 hpre y0 j2 hj2 hp2 y39 x44 hx44 y47) (An (An (o61 hpre y0 j2 hj2 hp2 y39 x44 hx44 y47) (o62 hpre y0 j2 hj2 hp2 y39 x44 hx44 y47)) (An (An (o63 hpre y0 j2 hj2 hp2 y39 x44 hx44 y47) tv) tv))))))) ?_
     refine zR [3,4,7,8,38,39,9,10,40] [56,5000,6001] (Ak 2 (An (o64 hpre y0 j2 hj2 hp2 y39 x44 hx44 y47) (Ak 1 tv))) ?_
     refine zR [3,4,7,8,38,39,9,10,40] [56,5000,6001] (An (o65 hpre y0 j2 hj2 hp2 y39 x44 hx44 y47) (Ak 1 tv)) ?_
     exact zn (zEn 6000 hE [] [(56,.same 56),(5000,.same 5000),(6001,.same 6001)] [3,4,39] [56,5000] (An (An (An (zr (AV.rp (cFrm f))) (zr true)) (An (An (zr (AV.rp [Jhc rooms])) (zr true)) (An (An (zr (some (Src.same 56))) (zr nilP)) (An (zr (some (Src.same 5000))) (An (zr (some (Src.same 5000))) (An (An (zr (iv (↑((setN left j2).length):Int))) (zr true)) (An (zr (some (Src.same 6001))) (An (An (ci (o66 hpre y0 j2 hj2 hp2 y39 x44 hx44 y47)) (zr nilN)) (An (An (ci (o67 hpre y0 j2 hj2 hp2 y39 x44 hx44 y47)) (zr nilN)) tv))))))))) (An (An (An (zr (OB.cells 93 [AV.opt (Option.isSome (Jag f rooms left j2)) (cLay (Jag f rooms left j2))])) (zr true)) (An (An (zr (OB.vec 3 1 (setN left j2).length fun (i:Nat)=>[iv ((setN left j2).getD i 0)])) (zr true)) (An (An (zr 3) (An (zr 1) (An (zr left.length) (fun (i48:Nat)=>(fun (y49:i48 < left.length)=>(o68 hpre y0 j2 hj2 hp2 y39 x44 hx44 y47 i48 y49)))))) tv))) (An (zr true) (zr true))))) (o69 hpre y0 j2 hj2 hp2 y39 x44 hx44 y47) (o70 hpre y0 j2 hj2 hp2 y39 x44 hx44 y47)
    ·refine Jaa ?_
     refine Ja0 ?_
     refine zC ([(4,CallSpec.eq (c66r f rooms left j2) [true,false,false])]) [7,8,10,13] [56,5000] (Ak 2 (An (An (by decide:Int.ofNat 0<=Int.ofNat 1) (o71 hpre y0 j2 hj2 hp2 y39 x44 hx44 y47)) (Ak 1 (An (An (An (zr (AV.agg (cFrm f))) (An (An (zr 2) (An (o72 hpre y0 j2 hj2 hp2 y39 x44 hx44 y47) (fun (i50:Nat)=>(fun (y51:i50 < (List.drop 1 rooms).length)=>(o73 hpre y0 j2 hj2 hp2 y39 x44 hx44 y47 i50 y51))))) (An (An (zr 1) (An (o74 hpre y0 j2 hj2 hp2 y39 x44 hx44 y47) (fun (i52:Nat)=>(fun (y53:i52 < (Jaq left (setN left j2)).length)=>(o75 hpre y0 j2 hj2 hp2 y39 x44 hx44 y47 i52 y53))))) tv))) (An (o76 hpre y0 j2 hj2 hp2 y39 x44 hx44 y47) (An (An hpre.1 (An (o77 hpre y0 j2 hj2 hp2 y39 x44 hx44 y47) (o78 hpre y0 j2 hj2 hp2 y39 x44 hx44 y47))) (Ak 1 (fun (i54:Env)=>tv))))) (Ak 1 tv))))) ?_
     refine Ja0 ?_
     refine zR [7,8,10,13,79] [56,5000] (Ak 3 (An (fun (y55:(!!Option.isSome (Jav f (List.drop 1 rooms) (Jaq left (setN left j2))))=true)=>(An (Ak 1 tv) tv)) (An (fun (y56:(!!Option.isSome (Jav f (List.drop 1 rooms) (Jaq left (setN left j2))))=true)=>(An (An (fun (y57:(!!Option.isSome (Jav f (List.drop 1 rooms) (Jaq left (setN left j2))))=true)=>y56) (Ak 1 tv)) tv)) (An (fun (y58:(!!Option.isSome (Jav f (List.drop 1 rooms) (Jaq left (setN left j2))))=true)=>(An (An (fun (y59:(!!Option.isSome (Jav f (List.drop 1 rooms) (Jaq left (setN left j2))))=true)=>y58) tv) tv)) (An (fun (y60:(!!Option.isSome (Jav f (List.drop 1 rooms) (Jaq left (setN left j2))) && !!Option.isSome (Jag f rooms left j2))=true)=>(An (Ak 1 tv) tv)) (An (fun (y61:(!!Option.isSome (Jav f (List.drop 1 rooms) (Jaq left (setN left j2))) && !!Option.isSome (Jag f rooms left j2))=true)=>(An (Ak 1 tv) tv)) (An (fun (y62:(!!Option.isSome (Jav f (List.drop 1 rooms) (Jaq left (setN left j2))) && !!Option.isSome (Jag f rooms left j2))=true)=>(An (An (fun (y63:(!!Option.isSome (Jav f (List.drop 1 rooms) (Jaq left (setN left j2))) && !!Option.isSome (Jag f rooms left j2))=true)=>y62) tv) (o79 hpre y0 j2 hj2 hp2 y39 x44 hx44 y47 y62))) (An (fun (y64:(!!Option.isSome (Jav f (List.drop 1 rooms) (Jaq left (setN left j2))) && !!Option.isSome (Jag f rooms left j2))=true)=>(An (An (fun (y65:(!!Option.isSome (Jav f (List.drop 1 rooms) (Jaq left (setN left j2))) && !!Option.isSome (Jag f rooms left j2))=true)=>y64) tv) (o80 hpre y0 j2 hj2 hp2 y39 x44 hx44 y47 y64))) (An (fun (y66:(!!Option.isSome (Jav f (List.drop 1 rooms) (Jaq left (setN left j2))) && !!Option.isSome (Jag f rooms left j2))=true)=>(An (An (fun (y67:(!!Option.isSome (Jav f (List.drop 1 rooms) (Jaq left (setN left j2))) && !!Option.isSome (Jag f rooms left j2))=true)=>y66) tv) tv)) (An (fun (y68:(!!Option.isSome (Jav f (List.drop 1 rooms) (Jaq left (setN left j2))) && !!Option.isSome (Jag f rooms left j2))=true)=>(An (An (fun (y69:(!!Option.isSome (Jav f (List.drop 1 rooms) (Jaq left (setN left j2))) && !!Option.isSome (Jag f rooms left j2))=true)=>y68) (An (fun (y70:(!!Option.isSome (Jav f (List.drop 1 rooms) (Jaq left (setN left j2))) && !!Option.isSome (Jag f rooms left j2))=true)=>y68) tv)) (o81 hpre y0 j2 hj2 hp2 y39 x44 hx44 y47 y68))) (An (fun (y71:(!!Option.isSome (Jav f (List.drop 1 rooms) (Jaq left (setN left j2))) && !!Option.isSome (Jag f rooms left j2))=true)=>(An (Ak 1 tv) tv)) (An (fun (y72:(!!Option.isSome (Jav f (List.drop 1 rooms) (Jaq left (setN left j2))) && !!Option.isSome (Jag f rooms left j2))=true)=>(An (An (fun (y73:(!!Option.isSome (Jav f (List.drop 1 rooms) (Jaq left (setN left j2))) && !!Option.isSome (Jag f rooms left j2))=true)=>y72) tv) (o82 hpre y0 j2 hj2 hp2 y39 x44 hx44 y47 y72))) (An (fun (y74:(!!Option.isSome (Jav f (List.drop 1 rooms) (Jaq left (setN left j2))) && !!Option.isSome (Jag f rooms left j2))=true)=>(An (An (fun (y75:(!!Option.isSome (Jav f (List.drop 1 rooms) (Jaq left (setN left j2))) && !!Option.isSome (Jag f rooms left j2))=true)=>y74) tv) (o83 hpre y0 j2 hj2 hp2 y39 x44 hx44 y47 y74))) (An (fun (y76:(!!Option.isSome (Jav f (List.drop 1 rooms) (Jaq left (setN left j2))) && !!Option.isSome (Jag f rooms left j2))=true)=>(An (An (fun (y77:(!!Option.isSome (Jav f (List.drop 1 rooms) (Jaq left (setN left j2))) && !!Option.isSome (Jag f rooms left j2))=true)=>y76) tv) tv)) (An (fun (y78:(!!Option.isSome (Jav f (List.drop 1 rooms) (Jaq left (setN left j2))) && !!Option.isSome (Jag f rooms left j2))=true)=>(An (An (fun (y79:(!!Option.isSome (Jav f (List.drop 1 rooms) (Jaq left (setN left j2))) && !!Option.isSome (Jag f rooms left j2))=true)=>y78) (An (fun (y80:(!!Option.isSome (Jav f (List.drop 1 rooms) (Jaq left (setN left j2))) && !!Option.isSome (Jag f rooms left j2))=true)=>y78) tv)) tv)) (An (fun (y81:(!!Option.isSome (Jav f (List.drop 1 rooms) (Jaq left (setN left j2))))=true)=>(An (An (fun (y82:(!!Option.isSome (Jav f (List.drop 1 rooms) (Jaq left (setN left j2))))=true)=>y81) tv) (An (fun (y83:(!Option.isSome (Jag f rooms left j2))=true)=>tv) (fun (y84:(!Option.isSome (Jag f rooms left j2))=false)=>(o84 hpre y0 j2 hj2 hp2 y39 x44 hx44 y47 y81 y84))))) (An (An (fun (y85:(!!Option.isSome (Jav f (List.drop 1 rooms) (Jaq left (setN left j2))))=true)=>y85) (fun (y86:(!!Option.isSome (Jav f (List.drop 1 rooms) (Jaq left (setN left j2))))=false)=>tv)) tv))))))))))))))))) ?_
     refine zI (bif !!Option.isSome (Jav f (List.drop 1 rooms) (Jaq left (setN left j2))) then bif !Option.isSome (Jag f rooms left j2) then true else decide (Jdf (setN left j2) x44 + layM (Jav f (List.drop 1 rooms) (Jaq left (setN left j2))) < layM (Jag f rooms left j2)) else false) (fun y87 => ?_) (fun y87 => ?_)
     ·refine zC ([(1,CallSpec.eq (c66d f rooms left j2) [true]),(15,Joi)]) [] [56,5000] (Ak 1 (An (An (An (zr (AV.vec 5000)) tv) (An (lendT 3 5000 0 (none) (t62o (setN left j2) (16384))) (An (o85 hpre y0 j2 hj2 hp2 y39 x44 hx44 y47 y87) (An (An (zr (some (OB.vec 3 1 (setN left j2).length fun (i:Nat)=>[iv ((setN left j2).getD i 0)]))) tv) (fun (i88:Env)=>tv))))) (Ak 2 (An (o86 hpre y0 j2 hj2 hp2 y39 x44 hx44 y47 y87) (An (o87 hpre y0 j2 hj2 hp2 y39 x44 hx44 y47 y87) (Ak 1 (An (o88 hpre y0 j2 hj2 hp2 y39 x44 hx44 y47 y87) (Ak 2 (An (o89 hpre y0 j2 hj2 hp2 y39 x44 hx44 y47 y87) (An (o90 hpre y0 j2 hj2 hp2 y39 x44 hx44 y47 y87) (Ak 1 (An (o91 hpre y0 j2 hj2 hp2 y39 x44 hx44 y47 y87) (Ak 3 tv))))))))))))) ?_
      exact zN 1006000 (zEn 6000 hE [] [(56,.same 56),(5000,.same 5000)] [] [5000] (Ak 1 (An (An (An (zr 93) (An (An (An (o92 hpre y0 j2 hj2 hp2 y39 x44 hx44 y47 y87) (An (An (zr 1) (An (o93 hpre y0 j2 hj2 hp2 y39 x44 hx44 y47 y87) (fun (i89:Nat)=>(fun (y90:i89 < (layS (Jag f rooms left (j2 + 1))).length)=>(o94 hpre y0 j2 hj2 hp2 y39 x44 hx44 y47 y87 i89 y90))))) (An (ci (o95 hpre y0 j2 hj2 hp2 y39 x44 hx44 y47 y87)) tv))) tv) (zr true))) (An (An (zr (OB.vec 3 1 (setN left j2).length fun (i:Nat)=>[iv ((setN left j2).getD i 0)])) (zr true)) tv)) (An (zr true) (zr true)))))
     ·refine Ja3 ?_
      exact zN 1006000 (zEn 6000 hE [] [(56,.same 56),(5000,.same 5000)] [] [5000] (Ak 1 (An (An (An (zr 93) (An (An (An (o96 hpre y0 j2 hj2 hp2 y39 x44 hx44 y47 y87) (fun (y91:Option.isSome (Jag f rooms left (j2 + 1))=true)=>(An (An (zr 1) (An (o97 hpre y0 j2 hj2 hp2 y39 x44 hx44 y47 y87 y91) (fun (i92:Nat)=>(fun (y93:i92 < (layS (Jag f rooms left (j2 + 1))).length)=>(o98 hpre y0 j2 hj2 hp2 y39 x44 hx44 y47 y87 y91 i92 y93))))) (An (ci (o99 hpre y0 j2 hj2 hp2 y39 x44 hx44 y47 y87 y91)) tv)))) tv) (zr true))) (An (An (zr (OB.vec 3 1 (setN left j2).length fun (i:Nat)=>[iv ((setN left j2).getD i 0)])) (zr true)) tv)) (An (zr true) (zr true)))))
  ·refine Ja0 ?_
   refine zR [6] [] (Ak 2 tv) ?_
   refine Ja5 ?_
   exact zT [] (An (Ak 1 tv) (An (An (o100 hpre y0) (fun (y94:Option.isSome (Jav f rooms left)=true)=>(An (An (zr 1) (An (o101 hpre y0 y94) (fun (i95:Nat)=>(fun (y96:i95 < (layS (Jav f rooms left)).length)=>(o102 hpre y0 y94 i95 y96))))) (An (ci (o103 hpre y0 y94)) tv)))) (An (zr true) (An (zr true) (zr true)))))
theorem t66' (f:Frm):∀ (n:Nat) (rooms:List Span) (left:List Int),rooms.length=n->Ja4 Tryz.prog 66 (s66 f rooms left):=by
 intro n
 induction n using Nat.strongRecOn with
 | _ n ih =>
  intro rooms left hn
  apply w66
  all_goals (try delta q2d q2e q2f q2g q2h q2i q2j q2k q2l q2m q2n q2o q2p q2q q2r q2s q2t q2u)
  all_goals (first | ((repeat intro _) <;> (try simp only [Bool.cond_true_left,Bool.cond_false_right,Bool.not_not,Bool.not_eq_true',Bool.not_eq_false',Bool.or_eq_true,Bool.or_eq_false_iff,Bool.and_eq_true,decide_eq_true_eq,decide_eq_false_iff_not,inI,big,Jba,Jai,Jbn] at *) <;> first | (exact rfl) | omega | (exact ⟨Nat.zero_le _,fun j hj=>absurd hj (Nat.not_lt_zero j)⟩) | (simp_all; done) | (simp_all; omega)) | skip)
  all_goals (intro hp hr; obtain ⟨hs,hg,hrl⟩:=hp)
  case o0 | o1 | o2 =>
   have e:rooms = []:=List.eq_nil_of_length_eq_zero (by simpa using hr)
   subst e; rfl
  all_goals (have hr0:rooms.length ≠ 0:=by simpa using hr)
  all_goals (have hsh:=hg.short hs)
  case o100=>rw [Jfv hr0]
  case o101 | o103=>intro _; rw [Jfv hr0]
  case o102=>intro _ i _; rw [Jfv hr0]
  case o4=>omega
  case o6=>rw [Jbw]
  case o7=>intro i _; rw [Jfx]
  case o8=>exact JcD _
  case o9=>intro x hx; rw [Jbw]; exact ⟨by omega,by omega⟩
  case o10=>intro x hx; rw [Jbw]; omega
  case o11=>exact fun x hx=>Jbw _ _
  case o12=>intro x hx i hi; rw [Jbw] at hi; rw [JbM (by omega)]
  case o42=>exact fun j hj _=>hg.isSet hj
  case o45=>intro j hj _ hw; rw [Jhd hw]
  case o46 | o48=>intro j hj _ hw _; rw [Jhd hw]
  case o47=>intro j hj _ hw _ i _; rw [Jhd hw]
  case o49=>intro j hj _ hw; omega
  case o22 =>
   intro x hx n hn hc; obtain ⟨hn1,hn2⟩:=hn
   have hk:=of_decide_eq_true (JpV hc)
   exact ⟨by omega,by omega⟩
  case o24 =>
   intro x hx n hn hc; obtain ⟨hn1,hn2⟩:=hn
   have hk:=of_decide_eq_true (JpV hc)
   intro q hq
   refine Jgp (fun h => ?_) (fun h => ?_)
   ·by_cases c:(q:Int)<=(left.length:Int) - 1 - n
    ·rw [JbM c,JbM (by omega)]
    ·rw [Jhe c,Jhe (by omega)]
   ·rw [Jhe (by omega)]; rfl
  case o25 =>
   intro x hx n hn hc; obtain ⟨hn1,hn2⟩:=hn
   have hk:=of_decide_eq_true (JpV hc)
   rw [decide_eq_true hk] at hc
   have hc':=of_decide_eq_true hc
   rw [JbM (by omega)] at hc'
   refine ⟨by omega,fun q h1 h2 => ?_⟩
   by_cases c:left.length - n<=q
   ·exact hn2 q c h2
   ·have:q=((left.length:Int) - 1 - n).toNat:=by omega
    rw [this]; exact hc'
  case o27 | o28 | o29 | o30 =>
   intro x hx n hn hc h2; simp only [decide_eq_true_eq] at h2; have e:=Jol hg hx hn.2 (by omega); rw [e]
   try (intros; rfl)
  case o34 =>
   intro x hx n hn hc h2; obtain ⟨hn1,hn2⟩:=hn; simp only [decide_eq_false_iff_not] at h2
   have hk:0<=(left.length:Int) - 1 - n:=by omega
   rw [decide_eq_true hk] at hc; have hc':=of_decide_eq_false hc; rw [JbM (by omega)] at hc'
   have ek:((left.length:Int) - 1 - n).toNat=left.length - 1 - n:=by omega
   rw [ek] at hc'; obtain ⟨g1,g2⟩:=Je2 hg.nonneg hx (k:=left.length - 1 - n) (by omega) (fun q h1 h2=>hn2 q (by omega) h2) hc'
   rw [ek,JbM (by omega)]
   have h3:=hg.set hx (left.length - 1 - n) (by omega)
   have h4:=hg.small hs (left.length - 1 - n) (by omega)
   exact ⟨by omega,by omega⟩
  case o38 =>
   intro x hx n hn hc h2; obtain ⟨hn1,hn2⟩:=hn; simp only [decide_eq_false_iff_not] at h2
   have hk:0<=(left.length:Int) - 1 - n:=by omega
   rw [decide_eq_true hk] at hc; have hc':=of_decide_eq_false hc; rw [JbM (by omega)] at hc'
   have ek:((left.length:Int) - 1 - n).toNat=left.length - 1 - n:=by omega
   rw [ek] at hc'; obtain ⟨g1,g2⟩:=Je2 hg.nonneg hx (k:=left.length - 1 - n) (by omega) (fun q h1 h2=>hn2 q (by omega) h2) hc'
   rw [Jbw]
  case o40 =>
   intro x hx n hn hc h2; obtain ⟨hn1,hn2⟩:=hn; simp only [decide_eq_false_iff_not] at h2
   have hk:0<=(left.length:Int) - 1 - n:=by omega
   rw [decide_eq_true hk] at hc; have hc':=of_decide_eq_false hc; rw [JbM (by omega)] at hc'
   have ek:((left.length:Int) - 1 - n).toNat=left.length - 1 - n:=by omega
   rw [ek] at hc'; obtain ⟨g1,g2⟩:=Je2 hg.nonneg hx (k:=left.length - 1 - n) (by omega) (fun q h1 h2=>hn2 q (by omega) h2) hc'
   exact g1
  case o39 =>
   intro x hx n hn hc h2; obtain ⟨hn1,hn2⟩:=hn; simp only [decide_eq_false_iff_not] at h2
   have hk:0<=(left.length:Int) - 1 - n:=by omega
   rw [decide_eq_true hk] at hc; have hc':=of_decide_eq_false hc; rw [JbM (by omega)] at hc'
   have ek:((left.length:Int) - 1 - n).toNat=left.length - 1 - n:=by omega
   rw [ek] at hc'; obtain ⟨g1,g2⟩:=Je2 hg.nonneg hx (k:=left.length - 1 - n) (by omega) (fun q h1 h2=>hn2 q (by omega) h2) hc'
   intro q hq
   rw [g2 q hq,ek]
   refine Jgp (fun h => ?_) (fun h => ?_)
   ·rw [if_neg h]
    by_cases c:q < left.length - 1 - n
    ·rw [if_pos c,JbM (by omega)]
    ·rw [if_neg c,Jhe (by omega)]
   ·rw [if_pos h,h,JbM (by omega)]; rfl
  all_goals (intro j hj _ hw x hx hl; rw [Jbw] at hl; simp only [decide_eq_true_eq,decide_eq_false_iff_not] at hl)
  all_goals (have hb:=JjY hg hs hj x hx)
  case o58 | o59 | o62 | o63 | o69 | o70=>all_goals omega
  case o65=>exact ⟨by omega,by omega⟩
  case o66=>rw [Jgq]
  case o60 =>
   have h3:=hg.set hj x (by omega); have h4:=hg.small hs x (by omega)
   unfold JbZ; rw [if_neg (by omega)]; exact ⟨by omega,by omega⟩
  case o64 =>
   have h3:=hg.set hj x (by omega); have h4:=hg.small hs x (by omega)
   exact ⟨by omega,by omega⟩
  case o68 =>
   have h3:=hg.set hj x (by omega); have h4:=hg.small hs x (by omega)
   intro q hq
   unfold JbZ
   refine Jgp (fun h => ?_) (fun h => ?_)
   ·by_cases c:q < x
    ·rw [if_pos c,if_pos (by omega)]
    ·rw [if_neg c,if_neg (by omega)]
   ·rw [if_neg (by omega),if_pos (by omega),h]; rfl
  case o73=>intro i hi; simp [List.getD_eq_getElem?_getD,List.getElem?_drop,Nat.add_comm]
  case o74=>rw [JbC]
  case o75=>intro i hi; rw [JbC] at hi; rw [Jdg hi]; unfold JbZ; rw [if_pos (by omega)]
  case o76=>exact ih (rooms.drop 1).length (by rw [List.length_drop]; omega) _ _ rfl
  case o77=>exact hg.rest hj
  all_goals (have hok:=JpT hs (rooms.drop 1) _ (hg.rest hj); have hm:=JpU hok; have hll:=Joj hok; have hdl:(rooms.drop 1).length=rooms.length - 1:=List.length_drop)
  all_goals (intro hc)
  case o81 | o91=>all_goals exact ⟨by omega,by omega⟩
  case o85=>rw [Jbw]; omega
  case o88=>omega
  all_goals (have ex:x=(setN left j).length:=by rw [Jbw]; omega)
  all_goals subst ex
  case o92 =>
   have e:=JeP hw hc; rw [e]
   rfl
  case o93 =>
   have e:=JeP hw hc; rw [e]
   exact Nat.add_comm _ _
  case o94 =>
   have e:=JeP hw hc; rw [e]
   intro i hi
   cases i with
   | zero=>rfl
   | succ i=>unfold catF; rw [if_neg (by omega)]; rfl
  case o95 =>
   have e:=JeP hw hc; rw [e]
   rfl
  all_goals (have e:=Jok hw hc; rw [e])
  all_goals (intros; rfl)
theorem t66 (f:Frm) (rooms:List Span) (left:List Int):Ja4 Tryz.prog 66 (s66 f rooms left):=t66' f _ rooms left rfl
end Go.Ab
namespace Go.Sh
open Go.Ab
def JaH (f:Frm) (w:Int) (n:Nat):List Span:=(List.range n).map fun c=>Jen f (Jax f (delW (col f c) (bitP w)))
def Jar (f:Frm) (n:Nat):List Int:=(List.range n).map fun i=>(stp f i).many
def Jb9 (f:Frm) (w:Int):Lay:=Jav f (JaH f w f.columns.length) (Jar f f.strips.length)
end Go.Sh
namespace Go.Ab
open Go Go.RowKit Go.Proofs Go.Sh Go.En
def s42 (f:Frm) (w:Int):CallSpec:={ args:=[vFrm f,iv w],res:=vLay (Jb9 f w),pre:=Sound f/\0<=w/\w<=1000 }
def h42a (f:Frm) (w:Int):Hint:={ X:=Nat,M:=fun n=>[(5,.vec 5000),(16,iv n)],H:=fun n=>[(5000,.vec 42 2 n (fun i=>Jb6 ((JaH f w n).getD i ⟨0,0⟩)))],I:=fun n=>n<=f.columns.length,mu:=fun n=>f.columns.length - n,x0:=(0:Nat),nx:=fun n=>n + 1 }
def h42b (f:Frm) (w:Int):Hint:={ X:=Nat,M:=fun n=>[(9,.vec 5001),(37,iv n)],H:=fun n=>[(5001,.vec 3 1 n (fun i=>[iv ((Jar f n).getD i 0)]))],I:=fun n=>n<=f.strips.length,mu:=fun n=>f.strips.length - n,x0:=(0:Nat),nx:=fun n=>n + 1 }
def c42c (f:Frm) (w:Int) (n:Nat):CallSpec:=s62o (col f n) 10112
def c42d (f:Frm) (w:Int) (n:Nat):CallSpec:=s61 10112 (col f n) (bitP w)
def c42l (f:Frm) (w:Int):CallSpec:=s66 f (JaH f w f.columns.length) (Jar f f.strips.length)
end Go.Ab
namespace Go.Sh
open Go.Ab
variable {f:Frm}
theorem JjZ {b:Bool} (h:(!decide (Jcl f b=0))=true):(Jbj f && b)=false:=by
 simp only [Bool.not_eq_true',decide_eq_false_iff_not] at h
 unfold Jcl at h
 cases e:Jbj f with
 | false=>rfl
 | true =>
  cases b with
  | false=>rfl
  | true=>exact absurd (by simp [e]) h
theorem Jms {b:Bool} (h:(!decide (Jcl f b=0))=false):Jbj f=true/\b=true/\Jaz f b=f/\Sound f/\Jcl f b=0:=by
 simp only [Bool.not_eq_false',decide_eq_true_eq] at h
 have h0:=h
 unfold Jcl at h
 cases e:Jbj f with
 | false=>rw [e] at h; simp at h
 | true =>
  cases b with
  | false=>rw [e] at h; simp at h
  | true=>exact ⟨rfl,rfl,Jmp e,Jds e,h0⟩
theorem Jp8 (a b:Bool):(bif a then true else b)=(a || b):=by cases a <;> rfl
theorem nt_ {b:Bool} (h:b=false):¬ b=true:=by rw [h]; exact Bool.false_ne_true
theorem Jic {l:List Int} (h:l.length<=6) (h1:∀ w,w ∈ l->0<=w/\w < f.pieces.length):Jbn f l:=⟨h,fun k hk=>h1 _ (Jbc l 0 hk)⟩
theorem Je3 {l:List Int} (h:Jbn f l):∀ w,w ∈ l->0<=w/\w < f.pieces.length:=by
 intro w hw
 obtain ⟨i,hi,e⟩:=List.getElem_of_mem hw
 have:=h.2 i hi
 rw [Jaf _ _ hi,e] at this; exact this
theorem Jid {l:List Int} (h:Jbn f l) (P:Int->Bool):Jbn f (delW l P) :=
 Jic (Nat.le_trans (List.length_filter_le _ _) h.1) (fun w hw=>Je3 h w (List.mem_filter.1 hw).1)
theorem Jcf (f:Frm) (w:Int) (n:Nat):(JaH f w n).length=n:=by unfold JaH; rw [List.length_map,List.length_range]
theorem JkS (f:Frm) (w:Int) (n:Nat):JaH f w (n + 1)=JaH f w n ++ [Jen f (Jax f (delW (col f n) (bitP w)))]:=by unfold JaH; rw [List.range_succ,List.map_append]; rfl
theorem JbN (f:Frm) (n:Nat):(Jar f n).length=n:=by unfold Jar; rw [List.length_map,List.length_range]
theorem Jes (f:Frm) (n:Nat):Jar f (n + 1)=Jar f n ++ [(stp f n).many]:=by unfold Jar; rw [List.range_succ,List.map_append]; rfl
theorem Jmt {n i:Nat} (h:i < n):(Jar f n).getD i 0=(stp f i).many:=by
 rw [Jaf _ _ (by rw [JbN]; exact h)]; unfold Jar; rw [List.getElem_map,List.getElem_range]
theorem Jet (hs:Sound f):GoodLeft f (Jar f f.strips.length):=by
 refine ⟨JbN _ _,fun q hq => ?_⟩
 rw [JbN] at hq
 rw [Jmt hq]
 exact ⟨(hs.strip q hq).2.2.1,Int.le_refl _⟩
theorem Jk0 (hs:Sound f) {c:Nat} {w:Int} (h:w ∈ col f c):0<=w/\w<=62:=by
 have:=Je3 (Jc5 hs c) w h
 have:=hs.pieces
 omega
theorem Jmu {l:List Int} (n i:Nat):(l.drop n).getD i 0=l.getD (n + i) 0:=by simp [List.getD_eq_getElem?_getD,List.getElem?_drop]
end Go.Sh
namespace Go.Ab
open Go Go.RowKit Go.Proofs Go.Sh Go.En
abbrev q2v (f:Frm) (w:Int) (Pq:Prop):Prop:=Sound f/\0<=w/\w<=1000->Pq
abbrev q2w (f:Frm) (x0:Nat) (Pq:Prop):Prop:=x0<=f.columns.length->Pq
abbrev q2x (f:Frm) (x0:Nat) (Pq:Prop):Prop:=q2w f x0 (decide ((x0:Int) < (↑(f.columns.length):Int))=true->Pq)
abbrev q2y (f:Frm) (x0:Nat) (Pq:Prop):Prop:=q2w f x0 (decide ((x0:Int) < (↑(f.columns.length):Int))=false->Pq)
abbrev q2z (f:Frm) (x14:Nat) (Pq:Prop):Prop:=x14<=f.strips.length->Pq
abbrev q30 (f:Frm) (x14:Nat) (Pq:Prop):Prop:=q2z f x14 (decide ((x14:Int) < (↑(f.strips.length):Int))=true->Pq)
abbrev q31 (f:Frm) (x14:Nat) (Pq:Prop):Prop:=q2z f x14 (decide ((x14:Int) < (↑(f.strips.length):Int))=false->Pq)
theorem w42 (f:Frm) (w:Int)
 (o0:q2v f w (0=(↑0:Int)))
 (o1:q2v f w (0<=f.columns.length))
 (o2:q2v f w (∀ (x0:Nat),q2x f x0 (0<=(x0:Int))))
 (o3:q2v f w (∀ (x0:Nat),q2x f x0 ((x0:Int) < (↑(f.columns.length):Int))))
 (o4:q2v f w (∀ (x0:Nat),q2x f x0 ((col f x0).length<=60000)))
 (o5:q2v f w (∀ (x0:Nat),q2x f x0 ((col f x0).length<=65536)))
 (o6:∀ (E0:Env),Sound f/\0<=w/\w<=1000 -> ∀ (x0:Nat),x0<=f.columns.length->decide ((x0:Int) < (↑(f.columns.length):Int))=true -> ∀ (i3:Env) (i4:List Value),Env.le E0 i3->i4.length=2->(∀ (k:Nat),Rel i3 true (List.getD [AV.vec 10112,AV.clo 63 [AV.rp [iv w]]] k AV.any) (i4.getD k undef))->Jdc Tryz.prog 0 (fun (w:{ w:Int // w ∈ col f x0 })=>[iv (Subtype.val w)]) (fun (w_1:{ w:Int // w ∈ col f x0 })=>bv (bitP w (Subtype.val w_1))) (Env.mk i3.1 i3.2 i3.3 fun (k:Nat) (u:Value) => ∃ (i:Nat),[AV.vec 10112,AV.fn 0][i]? = some (AV.fn k)/\i4[i]? = some u))
 (o7:q2v f w (∀ (x0:Nat),q2x f x0 (Jbn f (delW (col f x0) (bitP w)))))
 (o8:q2v f w (∀ (x0:Nat),q2x f x0 (0<=(Jax f (delW (col f x0) (bitP w))).lo)))
 (o9:q2v f w (∀ (x0:Nat),q2x f x0 ((Jax f (delW (col f x0) (bitP w))).lo<=(Jax f (delW (col f x0) (bitP w))).hi)))
 (o10:q2v f w (∀ (x0:Nat),q2x f x0 ((Jax f (delW (col f x0) (bitP w))).hi<=1000)))
 (o11:q2v f w (∀ (x0:Nat),q2x f x0 (x0 + 1<=65536)))
 (o12:q2v f w (∀ (x0:Nat),q2x f x0 (inI ((x0:Int) + 1))))
 (o13:q2v f w (∀ (x0:Nat),q2x f x0 ((x0:Int) + 1=(↑(x0 + 1):Int))))
 (o14:q2v f w (∀ (x0:Nat),q2x f x0 (∀ (i12:Nat),i12 < x0 + 1->catF x0 (fun (i:Nat)=>Jb6 ((JaH f w x0).getD i (Span.mk 0 0))) (fun (j:Nat)=>List.getD [[iv (Jen f (Jax f (delW (col f x0) (bitP w)))).lo,iv (Jen f (Jax f (delW (col f x0) (bitP w)))).hi]] j (TI.za ti42)) i12=Jb6 ((JaH f w (x0 + 1)).getD i12 (Span.mk 0 0)))))
 (o15:q2v f w (∀ (x0:Nat),q2x f x0 (x0 + 1<=f.columns.length)))
 (o16:q2v f w (∀ (x0:Nat),q2x f x0 (f.columns.length - (x0 + 1) < f.columns.length - x0)))
 (o17:q2v f w (∀ (x0:Nat),q2y f x0 (0=(↑0:Int))))
 (o18:q2v f w (∀ (x0:Nat),q2y f x0 (0<=f.strips.length)))
 (o19:q2v f w (∀ (x0:Nat),q2y f x0 (∀ (x14:Nat),q30 f x14 (0<=(x14:Int)))))
 (o20:q2v f w (∀ (x0:Nat),q2y f x0 (∀ (x14:Nat),q30 f x14 ((x14:Int) < (↑(f.strips.length):Int)))))
 (o21:q2v f w (∀ (x0:Nat),q2y f x0 (∀ (x14:Nat),q30 f x14 (x14 + 1<=65536))))
 (o22:q2v f w (∀ (x0:Nat),q2y f x0 (∀ (x14:Nat),q30 f x14 (inI ((x14:Int) + 1)))))
 (o23:q2v f w (∀ (x0:Nat),q2y f x0 (∀ (x14:Nat),q30 f x14 ((x14:Int) + 1=(↑(x14 + 1):Int)))))
 (o24:q2v f w (∀ (x0:Nat),q2y f x0 (∀ (x14:Nat),q30 f x14 (∀ (i16:Nat),i16 < x14 + 1->catF x14 (fun (i:Nat)=>[iv ((Jar f x14).getD i 0)]) (fun (j:Nat)=>List.getD [[iv (stp f x14).many]] j (TI.za ti3)) i16 = [iv ((Jar f (x14 + 1)).getD i16 0)]))))
 (o25:q2v f w (∀ (x0:Nat),q2y f x0 (∀ (x14:Nat),q30 f x14 (x14 + 1<=f.strips.length))))
 (o26:q2v f w (∀ (x0:Nat),q2y f x0 (∀ (x14:Nat),q30 f x14 (f.strips.length - (x14 + 1) < f.strips.length - x14))))
 (o27:q2v f w (∀ (x0:Nat),q2y f x0 (∀ (x14:Nat),q31 f x14 (x0=(JaH f w f.columns.length).length))))
 (o28:q2v f w (∀ (x0:Nat),q2y f x0 (∀ (x14:Nat),q31 f x14 (∀ (i18:Nat),i18 < (JaH f w f.columns.length).length->Jb6 ((JaH f w x0).getD i18 (Span.mk 0 0))=Jb6 ((JaH f w f.columns.length).getD i18 (Span.mk 0 0))))))
 (o29:q2v f w (∀ (x0:Nat),q2y f x0 (∀ (x14:Nat),q31 f x14 (x14=(Jar f f.strips.length).length))))
 (o30:q2v f w (∀ (x0:Nat),q2y f x0 (∀ (x14:Nat),q31 f x14 (∀ (i20:Nat),i20 < (Jar f f.strips.length).length -> [iv ((Jar f x14).getD i20 0)] = [iv ((Jar f f.strips.length).getD i20 0)]))))
 (o31:q2v f w (∀ (x0:Nat),q2y f x0 (∀ (x14:Nat),q31 f x14 (GoodLeft f (Jar f f.strips.length)))))
 (o32:q2v f w (∀ (x0:Nat),q2y f x0 (∀ (x14:Nat),q31 f x14 ((JaH f w f.columns.length).length<=3))))
 (o33:q2v f w (∀ (x0:Nat),q2y f x0 (∀ (x14:Nat),q31 f x14 (Option.isSome (Jav f (JaH f w f.columns.length) (Jar f f.strips.length))=Option.isSome (Jb9 f w)))))
 (o34:q2v f w (∀ (x0:Nat),q2y f x0 (∀ (x14:Nat),q31 f x14 (Option.isSome (Jb9 f w)=true->(layS (Jav f (JaH f w f.columns.length) (Jar f f.strips.length))).length=(layS (Jb9 f w)).length))))
 (o35:q2v f w (∀ (x0:Nat),q2y f x0 (∀ (x14:Nat),q31 f x14 (Option.isSome (Jb9 f w)=true -> ∀ (i24:Nat),i24 < (layS (Jb9 f w)).length -> [Ja6 ((layS (Jav f (JaH f w f.columns.length) (Jar f f.strips.length))).getD i24 [])] = [Ja6 ((layS (Jb9 f w)).getD i24 [])]))))
 (o36:q2v f w (∀ (x0:Nat),q2y f x0 (∀ (x14:Nat),q31 f x14 (Option.isSome (Jb9 f w)=true->layM (Jav f (JaH f w f.columns.length) (Jar f f.strips.length))=layM (Jb9 f w))))) :
  Ja4 Tryz.prog 42 (s42 f w):=by
 refine Ja7 Tryz.func42 rfl Tryz.call42 Jaw _ rfl rfl rfl rfl (Nat.le_of_ble_eq_true (by kernel_rfl)) (fun _ _ _ _ h=>h) ?_
 intro hpre C hC _ hE
 obtain ⟨P,w0,E0,av,hA,ro,df⟩:=C
 obtain ⟨rfl,rfl,rfl⟩:=hC
 refine Ja0 ?_
 refine zC ([(1,Joi)]) [2,3] [0] (Ak 3 tv) ?_
 refine Ja0 ?_
 refine zR [2,3,5] [0] (Ak 1 tv) ?_
 refine Ja0 ?_
 refine Ja0 ?_
 refine zR [2,3,5,14,15,16] [0] (Ak 5 tv) ?_
 refine Ja2 ?_
 refine zL (Hint.ann (h42a f w) [(2,AV.ptr 0 []),(3,AV.rp [iv w]),(14,AV.sl 1 f.columns.length fun (i:Nat)=>[Ja6 (col f i)]),(15,iv (↑(f.columns.length):Int))] [(0,OB.cells 71 (cFrm f))] 10072) (zE hE [] [(0,.same 0),(5000,.nil)] [3,14,15] [0] (An (An (An (zr (some (Src.same 0))) (zr nilP)) (An (An (zr (AV.rp [iv w])) (zr true)) (An (An (zr (AV.sl 1 f.columns.length fun (i:Nat)=>[Ja6 (col f i)])) (zr true)) (An (An (zr (iv (↑(f.columns.length):Int))) (zr true)) (An (zr (some Src.nil)) (An (An (ci (o0 hpre)) (zr nilN)) tv)))))) (An (An (An (zr (OB.cells 71 (cFrm f))) (zr true)) (An (zr 0) tv)) (An (zr true) (zr true))))) (o1 hpre) (fun (x0:Nat) hx0 => ?_)
 refine Ja0 ?_
 refine zR [2,3,14,15,5,16,17] [0,5000] (Ak 1 tv) ?_
 refine Ja0 ?_
 refine zI (decide ((x0:Int) < (↑(f.columns.length):Int))) (fun y1 => ?_) (fun y1 => ?_)
 ·refine Ja3 ?_
  refine Ja0 ?_
  refine Ja2 ?_
  refine Ja0 ?_
  refine zR [2,3,14,15,5,16,7] [0,5000] (An (An (o2 hpre x0 hx0 y1) (o3 hpre x0 hx0 y1)) (Ak 2 tv)) ?_
  refine Ja0 ?_
  refine zC ([(1,CallSpec.eq (c42c f w x0) [true]),(3,CallSpec.eq (c42d f w x0) [true,false])]) [2,3,14,15,5,16,8] [0,5000] (Ak 1 (An (An (An (zr (Ja6 (col f x0))) tv) (An (t62o (col f x0) (10112)) (An (o4 hpre x0 hx0 y1) (Ak 1 (fun (i2:Env)=>tv))))) (Ak 1 (An (An (An (zr (AV.vec 10112)) (Ak 1 tv)) (An (t61 (10112) (col f x0) (bitP w)) (An (o5 hpre x0 hx0 y1) (An (An (zr (some (OB.vec 3 1 (col f x0).length fun (i:Nat)=>[iv ((col f x0).getD i 0)]))) tv) (fun (i3:Env)=>(fun (i4:List Value)=>(fun (y5:Env.le E0 i3)=>(fun (y6:i4.length=2)=>(fun (y7:∀ (k:Nat),Rel i3 true (List.getD [AV.vec 10112,AV.clo 63 [AV.rp [iv w]]] k AV.any) (i4.getD k undef))=>(o6 E0 hpre x0 hx0 y1 i3 i4 y5 y6 y7)))))))))) (Ak 1 tv))))) ?_
  refine zC ([(4,CallSpec.eq (s65 f (delW (col f x0) (bitP w))) [true,false]),(5,CallSpec.eq (s64 f (Jax f (delW (col f x0) (bitP w)))) [true,true])]) [2,3,14,15,5,16] [0,10200] (Ak 4 (An (An (An (zr (AV.agg (cFrm f))) (An (An (zr 1) (An (zr (delW (col f x0) (bitP w)).length) (fun (i8:Nat)=>(fun (y9:i8 < (delW (col f x0) (bitP w)).length)=>(zr ([iv ((delW (col f x0) (bitP w)).getD i8 0)])))))) tv)) (An (t65 (f) (delW (col f x0) (bitP w))) (An (An hpre.1 (o7 hpre x0 hx0 y1)) (Ak 1 (fun (i10:Env)=>tv))))) (An (An (An (zr (AV.agg (cFrm f))) (An (zr (AV.agg (Jb6 (Jax f (delW (col f x0) (bitP w)))))) tv)) (An (t64 (f) (Jax f (delW (col f x0) (bitP w)))) (An (An hpre.1 (An (o8 hpre x0 hx0 y1) (An (o9 hpre x0 hx0 y1) (o10 hpre x0 hx0 y1)))) (Ak 1 (fun (i11:Env)=>tv))))) (Ak 1 (An (o11 hpre x0 hx0 y1) (Ak 1 tv)))))) ?_
  refine zR [2,3,14,15,5,16] [0,10200] (An (o12 hpre x0 hx0 y1) (Ak 1 tv)) ?_
  exact zn (zE hE [] [(0,.same 0),(5000,.same 10200)] [3,14,15] [0] (An (An (An (zr (some (Src.same 0))) (zr nilP)) (An (An (zr (AV.rp [iv w])) (zr true)) (An (An (zr (AV.sl 1 f.columns.length fun (i:Nat)=>[Ja6 (col f i)])) (zr true)) (An (An (zr (iv (↑(f.columns.length):Int))) (zr true)) (An (zr (some (Src.same 10200))) (An (An (ci (o13 hpre x0 hx0 y1)) (zr nilN)) tv)))))) (An (An (An (zr (OB.cells 71 (cFrm f))) (zr true)) (An (An (zr 42) (An (zr 2) (An (zr (x0 + 1)) (fun (i12:Nat)=>(fun (y13:i12 < x0 + 1)=>(o14 hpre x0 hx0 y1 i12 y13)))))) tv)) (An (zr true) (zr true))))) (o15 hpre x0 hx0 y1) (o16 hpre x0 hx0 y1)
 ·refine Jaa ?_
  refine Ja0 ?_
  refine zR [2,5,9] [0,5000] (Ak 1 tv) ?_
  refine Ja0 ?_
  refine Ja0 ?_
  refine zR [2,5,9,35,36,37] [0,5000] (Ak 5 tv) ?_
  refine Ja2 ?_
  refine zL (Hint.ann (h42b f w) [(2,AV.ptr 0 []),(5,AV.vec 5000),(35,AV.sl 2 f.strips.length fun (i:Nat)=>JaK (stp f i)),(36,iv (↑(f.strips.length):Int))] [(0,OB.cells 71 (cFrm f)),(5000,OB.vec 42 2 x0 fun (i:Nat)=>Jb6 ((JaH f w x0).getD i (Span.mk 0 0)))] 20128) (zE hE [] [(0,.same 0),(5000,.same 5000),(5001,.nil)] [35,36] [0,5000] (An (An (An (zr (some (Src.same 0))) (zr nilP)) (An (zr (some (Src.same 5000))) (An (An (zr (AV.sl 2 f.strips.length fun (i:Nat)=>JaK (stp f i))) (zr true)) (An (An (zr (iv (↑(f.strips.length):Int))) (zr true)) (An (zr (some Src.nil)) (An (An (ci (o17 hpre x0 hx0 y1)) (zr nilN)) tv)))))) (An (An (An (zr (OB.cells 71 (cFrm f))) (zr true)) (An (An (zr (OB.vec 42 2 x0 fun (i:Nat)=>Jb6 ((JaH f w x0).getD i (Span.mk 0 0)))) (zr true)) (An (zr 0) tv))) (An (zr true) (zr true))))) (o18 hpre x0 hx0 y1) (fun (x14:Nat) hx14 => ?_)
  refine Ja0 ?_
  refine zR [2,5,35,36,9,37,38] [0,5000,5001] (Ak 1 tv) ?_
  refine Ja0 ?_
  refine zI (decide ((x14:Int) < (↑(f.strips.length):Int))) (fun y15 => ?_) (fun y15 => ?_)
  ·refine Ja3 ?_
   refine Ja0 ?_
   refine Ja2 ?_
   refine Ja0 ?_
   refine zR [2,5,35,36,9,37,11] [0,5000,5001,20152] (An (An (o19 hpre x0 hx0 y1 x14 hx14 y15) (o20 hpre x0 hx0 y1 x14 hx14 y15)) (Ak 3 tv)) ?_
   refine zR [2,5,35,36,9,37] [0,5000,20200] (Ak 4 (An (o21 hpre x0 hx0 y1 x14 hx14 y15) (Ak 1 tv))) ?_
   refine zR [2,5,35,36,9,37] [0,5000,20200] (An (o22 hpre x0 hx0 y1 x14 hx14 y15) (Ak 1 tv)) ?_
   exact zn (zE hE [] [(0,.same 0),(5000,.same 5000),(5001,.same 20200)] [35,36] [0,5000] (An (An (An (zr (some (Src.same 0))) (zr nilP)) (An (zr (some (Src.same 5000))) (An (An (zr (AV.sl 2 f.strips.length fun (i:Nat)=>JaK (stp f i))) (zr true)) (An (An (zr (iv (↑(f.strips.length):Int))) (zr true)) (An (zr (some (Src.same 20200))) (An (An (ci (o23 hpre x0 hx0 y1 x14 hx14 y15)) (zr nilN)) tv)))))) (An (An (An (zr (OB.cells 71 (cFrm f))) (zr true)) (An (An (zr (OB.vec 42 2 x0 fun (i:Nat)=>Jb6 ((JaH f w x0).getD i (Span.mk 0 0)))) (zr true)) (An (An (zr 3) (An (zr 1) (An (zr (x14 + 1)) (fun (i16:Nat)=>(fun (y17:i16 < x14 + 1)=>(o24 hpre x0 hx0 y1 x14 hx14 y15 i16 y17)))))) tv))) (An (zr true) (zr true))))) (o25 hpre x0 hx0 y1 x14 hx14 y15) (o26 hpre x0 hx0 y1 x14 hx14 y15)
  ·refine Jaa ?_
   refine Ja0 ?_
   refine zC ([(3,CallSpec.eq (c42l f w) [true,false,false])]) [4] [] (Ak 3 (An (An (An (zr (AV.agg (cFrm f))) (An (An (zr 2) (An (o27 hpre x0 hx0 y1 x14 hx14 y15) (fun (i18:Nat)=>(fun (y19:i18 < (JaH f w f.columns.length).length)=>(o28 hpre x0 hx0 y1 x14 hx14 y15 i18 y19))))) (An (An (zr 1) (An (o29 hpre x0 hx0 y1 x14 hx14 y15) (fun (i20:Nat)=>(fun (y21:i20 < (Jar f f.strips.length).length)=>(o30 hpre x0 hx0 y1 x14 hx14 y15 i20 y21))))) tv))) (An (t66 (f) (JaH f w f.columns.length) (Jar f f.strips.length)) (An (An hpre.1 (An (o31 hpre x0 hx0 y1 x14 hx14 y15) (o32 hpre x0 hx0 y1 x14 hx14 y15))) (Ak 1 (fun (i22:Env)=>tv))))) (Ak 1 tv))) ?_
   refine Ja5 ?_
   exact zT [] (An (Ak 1 tv) (An (An (o33 hpre x0 hx0 y1 x14 hx14 y15) (fun (y23:Option.isSome (Jb9 f w)=true)=>(An (An (zr 1) (An (o34 hpre x0 hx0 y1 x14 hx14 y15 y23) (fun (i24:Nat)=>(fun (y25:i24 < (layS (Jb9 f w)).length)=>(o35 hpre x0 hx0 y1 x14 hx14 y15 y23 i24 y25))))) (An (ci (o36 hpre x0 hx0 y1 x14 hx14 y15 y23)) tv)))) (An (zr true) (An (zr true) (zr true)))))
theorem t42 (f:Frm) (w:Int):Ja4 Tryz.prog 42 (s42 f w):=by
 apply w42
 all_goals (try delta q2v q2w q2x q2y q2z q30 q31)
 all_goals (first | ((repeat intro _) <;> (try simp only [Bool.cond_true_left,Bool.cond_false_right,Bool.not_not,Bool.not_eq_true',Bool.not_eq_false',Bool.or_eq_true,Bool.or_eq_false_iff,Bool.and_eq_true,decide_eq_true_eq,decide_eq_false_iff_not,inI,big,Jba,Jai,Jbn] at *) <;> first | (exact rfl) | omega | (exact ⟨Nat.zero_le _,fun j hj=>absurd hj (Nat.not_lt_zero j)⟩) | (simp_all; done) | (simp_all; omega)) | skip)
 case o6 =>
  intro E0 hp x hx hl E us le hlen hr
  obtain ⟨hs,h0,h1⟩:=hp
  refine Jo2 (vals:=[.vec 10112,.clo 63 [.rp [iv w]]]) 1 (fun j' h => ?_) (fun E u hu m=>Jo1 (caps:=[.rp [iv w]]) (s63 m.1 w) (t63 _ _) rfl ⟨(Jk0 hs m.2).1,(Jk0 hs m.2).2,h0,h1⟩ (fun _=>trivial) rfl rfl rfl rfl rfl hu) E us le hlen hr
  match j',h with
  | 0,h=>cases h
  | 1,_=>rfl
  | n + 2,h=>simp at h
 all_goals (intro hp; obtain ⟨hs,h0,h1⟩:=hp; have hc3:=hs.columns; have hs3:=hs.strips)
 case o4 | o5=>intro x hx hl; have:=hs.colLen x; omega
 case o7=>intro x hx hl; exact Jid (Jc5 hs x) _
 case o8 | o9 | o10=>intro x hx hl; have:=high_bound' hs (Jid (Jc5 hs x) (bitP w)); omega
 case o11=>intro x hx hl; omega
 case o12=>intro x hx hl; exact ⟨by omega,by omega⟩
 case o14 =>
  intro x hx hl i hi
  rw [JkS]
  exact Jc4 (JaH f w x) _ ⟨0,0⟩ Jb6 (Jcf f w x).symm (fun k _=>rfl) rfl (by rw [Jcf]; exact hi)
 all_goals (intro x hx hl y hy hk)
 case o21=>omega
 case o22=>exact ⟨by omega,by omega⟩
 case o24 =>
  intro i hi
  rw [Jes]
  exact Jc4 (Jar f y) _ 0 (fun x=>[iv x]) (JbN f y).symm (fun k _=>rfl) rfl (by rw [JbN]; exact hi)
 all_goals (simp only [decide_eq_false_iff_not] at hl hk)
 all_goals (have ex:x=f.columns.length:=by omega)
 all_goals (have ey:y=f.strips.length:=by omega)
 all_goals (subst ex; subst ey)
 case o27=>rw [Jcf]
 case o28 | o30=>intro i hi; rfl
 case o29=>rw [JbN]
 case o31=>exact Jet hs
 case o32=>rw [Jcf]; exact hc3
 all_goals (intros; rfl)
end Go.Ab
namespace Go.Sh
open Go.Ab
def cmpW (a b:Int):Int:=if a < b then -1 else if b < a then 1 else 0
def cmpL:List Int->List Int->Int
 | [],[]=>0
 | [],_ :: _ => -1
 | _ :: _,[]=>1
 | x :: xs,y :: ys=>if cmpW x y=0 then cmpL xs ys else cmpW x y
def orI (l:List Int):Int:=(l.find? fun w => !decide (w=0)).getD 0
def JaN (w:Int) (k:Nat):List Int:=(List.range k).filterMap fun (i:Nat)=>if bitP w (i:Int) then some (i:Int) else none
def Jau (f:Frm) (l:List Int):Int:=l.foldl (fun a p=>a + (pc f p.toNat).pence) 0
def outP (f:Frm) (w:Int):List Int:=JaN w f.pieces.length
abbrev Out:=Option (List Int × Int)
def outL (b:Out):List Int:=match b with | some x=>x.1 | none=>[]
def outN (b:Out):Int:=match b with | some x=>x.2 | none=>0
def Jie (f:Frm) (b:Out) (w:Int):Bool:=match b with | some x=>decide (0<=orI [Jau f (outP f w) - x.2,((outP f w).length:Int) - (x.1.length:Int),cmpL (outP f w) x.1]) | none=>false
def JkT (f:Frm) (b:Out) (w:Nat):Out:=if Jie f b (w:Int) || !(Jb9 f (w:Int)).isSome then b else some (outP f (w:Int),Jau f (outP f (w:Int)))
def Ja9 (f:Frm) (n:Nat):Out:=(List.range n).foldl (JkT f) none
def refP (f:Frm):Out:=Ja9 f (2 ^ f.pieces.length)
def Jaj (f:Frm):List Int:=if Jbj f then outL (refP f) else []
def JbW (f:Frm):Int:=if Jbj f then outN (refP f) else 0
def Ja8 (f:Frm):Int:=if Jbj f then (if (refP f).isSome then 0 else 3) else 30
end Go.Sh
namespace Go.Ab
open Go Go.RowKit Go.Proofs Go.Sh Go.En
def s76 (a:Int):CallSpec:={ args:=[iv a],res:=bv false }
def s60 (a b:Int):CallSpec:={ args:=[iv a,iv b],res:=iv (cmpW a b) }
def s41 (a b:List Int):CallSpec:={ args:=[Ja6 a,Ja6 b],res:=iv (cmpL a b),pre:=a.length<=65536/\b.length<=65536 }
def h41 (a b:List Int):Hint:={ X:=Nat,M:=fun i=>[(11,iv i)],I:=fun i=>i<=a.length/\i<=b.length /\ ∀ j,j < i->a.getD j 0=b.getD j 0,mu:=fun i=>a.length - i,x0:=(0:Nat),nx:=fun i=>i + 1 }
def s40 (ws:List Int):CallSpec:={ args:=[Ja6 ws],res:=iv (orI ws),pre:=ws.length<=65536 }
def h40 (ws:List Int):Hint:={ X:=Nat,M:=fun i=>[(8,iv i)],I:=fun i=>i<=ws.length /\ ∀ j,j < i->ws.getD j 0=0,mu:=fun i=>ws.length - i,x0:=(0:Nat),nx:=fun i=>i + 1 }
def s27 (f:Frm):CallSpec:={ args:=[vFrm f],res := .tup [Ja6 (outL (refP f)),iv (outN (refP f)),bv (refP f).isSome],pre:=Sound f }
def h27a (f:Frm):Hint:={ X:=Nat,M:=fun n=>[(2,Ja6 (outL (Ja9 f n))),(3,iv (outN (Ja9 f n))),(4,bv (Ja9 f n).isSome),(15,iv n)],I:=fun n=>n<=2 ^ f.pieces.length,mu:=fun n=>2 ^ f.pieces.length - n,x0:=(0:Nat),nx:=fun n=>n + 1 }
def h27b (f:Frm) (n:Nat):Hint:={ X:=Nat,M:=fun k=>[(6,.vec 5000),(7,iv (Jau f (JaN n k))),(22,iv k)],H:=fun k=>[(5000,rowI 3 (JaN n k))],I:=fun k=>k<=f.pieces.length,mu:=fun k=>f.pieces.length - k,x0:=(0:Nat),nx:=fun k=>k + 1 }
def c27c (f:Frm) (n:Nat):CallSpec:=s41 (outP f n) (outL (Ja9 f n))
def c27o (f:Frm) (n:Nat):CallSpec:=s40 [Jau f (outP f n) - outN (Ja9 f n),((outP f n).length:Int) - ((outL (Ja9 f n)).length:Int),cmpL (outP f n) (outL (Ja9 f n))]
def s10 (f:Frm):CallSpec:={ args:=[vFrm f],res := .tup [Ja6 (Jaj f),iv (Ja8 f)],pre:=Jai f }
def s11 (f:Frm):CallSpec:={ args:=[vFrm f],res := .tup [iv (JbW f),iv (Ja8 f)],pre:=Jai f }
end Go.Ab
namespace Go.Sh
open Go.Ab
variable {f:Frm}
theorem Jif {a b:Int} (h:cmpW a b=0):a=b:=by
 unfold cmpW at h
 split at h
 ·cases h
 ·split at h
  ·cases h
  ·omega
theorem Jig (a:Int):cmpW a a=0:=by unfold cmpW; rw [if_neg (by omega),if_neg (by omega)]
theorem JpW:∀ (i:Nat) (a b:List Int),i<=a.length->i<=b.length->(∀ j,j < i->a.getD j 0=b.getD j 0)->cmpL a b=cmpL (a.drop i) (b.drop i):=by
 intro i
 induction i with
 | zero=>intro a b _ _ _; rfl
 | succ i ih =>
  intro a b ha hb h
  match a,b,ha,hb,h with
  | x :: xs,y :: ys,ha,hb,h =>
   have e:x=y:=h 0 (Nat.succ_pos _)
   subst e
   rw [cmpL,if_pos (Jig x)]
   exact ih xs ys (Nat.le_of_succ_le_succ ha) (Nat.le_of_succ_le_succ hb) (fun j hj=>h (j + 1) (Nat.succ_lt_succ hj))
theorem JcE {l:List Int} {i:Nat} (h:i < l.length):l.drop i=l.getD i 0 :: l.drop (i + 1):=by
 rw [List.drop_eq_getElem_cons h,Jaf _ _ h]
theorem Je4 {l:List Int} {i:Nat} (h:l.length<=i):l.drop i = []:=List.drop_eq_nil_of_le h
theorem JpX {l:List Int} {x:Nat} (hx:x < l.length) (h:∀ j,j < x->l.getD j 0=0) (hn:l.getD x 0 ≠ 0):orI l=l.getD x 0:=by
 have e:orI l=(((l.take x ++ l.drop x).find? fun w => !decide (w=0))).getD 0:=by rw [List.take_append_drop]; rfl
 have hz:(l.take x).find? (fun w => !decide (w=0))=none:=by
  rw [List.find?_eq_none]
  intro w hw
  obtain ⟨i,hi,e⟩:=List.getElem_of_mem hw
  rw [List.length_take] at hi
  have:=h i (by omega)
  rw [Jaf _ _ (by omega)] at this
  rw [List.getElem_take] at e
  rw [← e,this]; decide
 rw [e,List.find?_append,hz,JcE hx,List.find?_cons_of_pos (by simpa using hn)]
 rfl
theorem Jom {l:List Int} (h:∀ j,j < l.length->l.getD j 0=0):orI l=0:=by
 have hz:l.find? (fun w => !decide (w=0))=none:=by
  rw [List.find?_eq_none]
  intro w hw
  obtain ⟨i,hi,e⟩:=List.getElem_of_mem hw
  have:=h i hi
  rw [Jaf _ _ hi,e] at this
  rw [this]; decide
 unfold orI; rw [hz]; rfl
theorem Jmv {w:Int} {k:Nat} (h:bitP w (k:Int)=true):JaN w (k + 1)=JaN w k ++ [(k:Int)]:=by
 unfold JaN; rw [List.range_succ,List.filterMap_append]
 congr 1
 rw [List.filterMap_cons_some (b:=(k:Int)) (by rw [if_pos h])]; rfl
theorem Jon {w:Int} {k:Nat} (h:bitP w (k:Int)=false):JaN w (k + 1)=JaN w k:=by
 unfold JaN; rw [List.range_succ,List.filterMap_append,List.filterMap_cons_none (by rw [if_neg (nt_ h)])]
 exact List.append_nil _
theorem Jmw (w:Int) (k:Nat):(JaN w k).length<=k:=by
 unfold JaN; exact Nat.le_trans (List.length_filterMap_le _ _) (by rw [List.length_range]; exact Nat.le_refl _)
theorem Jgr (f:Frm) (l:List Int) (k:Nat):Jau f (l ++ [(k:Int)])=Jau f l + (pc f k).pence:=by unfold Jau; rw [List.foldl_append]; rfl
theorem Jk1 (hs:Sound f) (w:Int):∀ k,k<=f.pieces.length->0<=Jau f (JaN w k)/\Jau f (JaN w k)<=99 * k:=by
 intro k
 induction k with
 | zero=>intro _; exact ⟨Int.le_refl _,Int.le_refl _⟩
 | succ k ih =>
  intro hk
  have h1:=ih (by omega)
  have h2:=hs.piece k (by omega)
  cases e:bitP w (k:Int) with
  | true=>rw [Jmv e,Jgr]; omega
  | false=>rw [Jon e]; omega
theorem JeQ (f:Frm) (n:Nat):Ja9 f (n + 1)=JkT f (Ja9 f n) n:=by unfold Ja9; rw [List.range_succ,List.foldl_append]; rfl
theorem Jp9 (hs:Sound f):∀ n x,Ja9 f n=some x->0<=x.2/\x.2<=594/\x.1.length<=6:=by
 intro n
 induction n with
 | zero=>intro x h; cases h
 | succ n ih =>
  intro x h
  rw [JeQ] at h
  unfold JkT at h
  split at h
  ·exact ih x h
  ·cases h
   have h1:=Jk1 hs (n:Int) f.pieces.length (Nat.le_refl _)
   have h2:=Jmw (n:Int) f.pieces.length
   have h3:=hs.pieces
   exact ⟨h1.1,by show Jau f (JaN _ _)<=_; omega,by show (JaN _ _).length<=_; omega⟩
theorem JpY (hs:Sound f) (n:Nat):0<=outN (Ja9 f n)/\outN (Ja9 f n)<=594/\(outL (Ja9 f n)).length<=6:=by
 have h:=Jp9 hs n
 cases e:Ja9 f n with
 | none=>exact ⟨Int.le_refl _,by show (0:Int)<=594; omega,Nat.zero_le _⟩
 | some x=>exact h x e
def Jmx (f:Frm) (b:Out) (w:Int):Bool:=bif b.isSome then decide (0<=orI [Jau f (outP f w) - outN b,((outP f w).length:Int) - ((outL b).length:Int),cmpL (outP f w) (outL b)]) else false
theorem Jk2 (f:Frm) (b:Out) (w:Int):Jie f b w=Jmx f b w:=by cases b <;> rfl
theorem Jmy {n:Nat} (h:(bif Jmx f (Ja9 f n) (n:Int) then true else !(Jb9 f (n:Int)).isSome)=true):Ja9 f (n + 1)=Ja9 f n:=by
 rw [Jp8] at h
 rw [JeQ]; unfold JkT; rw [Jk2,if_pos h]
theorem Jmz {n:Nat} (h:(bif Jmx f (Ja9 f n) (n:Int) then true else !(Jb9 f (n:Int)).isSome)=false):Ja9 f (n + 1)=some (outP f (n:Int),Jau f (outP f (n:Int))):=by
 rw [Jp8] at h
 rw [JeQ]; unfold JkT; rw [Jk2,if_neg (nt_ h)]
theorem pow6 (hs:Sound f):2 ^ f.pieces.length<=64:=Nat.pow_le_pow_right (by omega) hs.pieces
theorem Jk3 {b:Out} (h:(!b.isSome)=true):b=none:=by cases b <;> first | rfl | cases h
theorem Jk4 {b:Out} (h:(!b.isSome)=false):b.isSome=true:=by cases b <;> first | rfl | cases h
theorem Jk5 (n:Nat):(1 * 2 ^ n:Int)=((2 ^ n:Nat):Int):=by simp
end Go.Sh
namespace Go.Ab
open Go Go.RowKit Go.Proofs Go.Sh Go.En
theorem w76 (a:Int)
  (o0:(!decide (a=a))=false) :
  Ja4 Tryz.prog 76 (s76 a):=by
 refine Ja7 Tryz.func76 rfl Tryz.call76 Jaw _ rfl rfl rfl rfl (Nat.le_of_ble_eq_true (by kernel_rfl)) (fun _ _ _ _ h=>h) ?_
 intro _ C hC _ hE
 obtain ⟨P,w0,E0,av,hA,ro,df⟩:=C
 obtain ⟨rfl,rfl,rfl⟩:=hC
 refine Ja0 ?_
 refine zR [0] [] (Ak 1 tv) ?_
 refine Ja0 ?_
 refine zR [2] [] (Ak 4 tv) ?_
 refine Ja5 ?_
 exact zT [] (An (Ak 1 tv) (An (An (cb (o0)) (zr nilN)) (An (zr true) (An (zr true) (zr true)))))
theorem t76 (a:Int):Ja4 Tryz.prog 76 (s76 a):=by
 apply w76
 all_goals simp
theorem w60 (a:Int) (b:Int)
  (o0:decide (a < b)=true -> -1=cmpW a b)
  (o1:decide (a < b)=false->decide (b < a)=true->1=cmpW a b)
  (o2:decide (a < b)=false->decide (b < a)=false->0=cmpW a b) :
  Ja4 Tryz.prog 60 (s60 a b):=by
 refine Ja7 Tryz.func60 rfl Tryz.call60 Jaw _ rfl rfl rfl rfl (Nat.le_of_ble_eq_true (by kernel_rfl)) (fun _ _ _ _ h=>h) ?_
 intro _ C hC _ hE
 obtain ⟨P,w0,E0,av,hA,ro,df⟩:=C
 obtain ⟨rfl,rfl,rfl⟩:=hC
 refine Ja0 ?_
 refine zR [0,1] [] (Ak 1 tv) ?_
 refine Ja0 ?_
 refine zC ([(1,CallSpec.eq (s76 a) [true])]) [0,1,5] [] (Ak 1 (An (An (An (zr (iv a)) tv) (An (t76 (a)) (Ak 2 (fun (i0:Env)=>tv)))) (Ak 1 tv))) ?_
 refine Ja0 ?_
 refine zC ([(1,CallSpec.eq (s76 b) [true])]) [0,1,5,6] [] (Ak 1 (An (An (An (zr (iv b)) tv) (An (t76 (b)) (Ak 2 (fun (i1:Env)=>tv)))) (Ak 1 tv))) ?_
 refine Ja0 ?_
 refine Ja0 ?_
 refine zR [0,1,6,11] [] (Ak 1 tv) ?_
 refine zf ?_
 refine Ja3 ?_
 refine Ja0 ?_
 refine Ja0 ?_
 refine zR [0,1,13] [] (Ak 1 tv) ?_
 refine zf ?_
 refine Ja3 ?_
 refine Ja0 ?_
 refine Ja0 ?_
 refine zR [0,1,16] [] (Ak 3 tv) ?_
 refine zI (decide (a < b)) (fun y2 => ?_) (fun y2 => ?_)
 ·refine Ja0 ?_
  refine zR [4] [] (Ak 1 tv) ?_
  refine Ja5 ?_
  exact zT [] (An (Ak 1 tv) (An (An (ci (o0 y2)) (zr nilN)) (An (zr true) (An (zr true) (zr true)))))
 ·refine Ja3 ?_
  refine Ja0 ?_
  refine Ja0 ?_
  refine zR [19] [] (Ak 3 tv) ?_
  refine zI (decide (b < a)) (fun y3 => ?_) (fun y3 => ?_)
  ·refine Ja0 ?_
   refine zR [4] [] (Ak 1 tv) ?_
   refine Ja5 ?_
   exact zT [] (An (Ak 1 tv) (An (An (ci (o1 y2 y3)) (zr nilN)) (An (zr true) (An (zr true) (zr true)))))
  ·refine Ja3 ?_
   refine Ja0 ?_
   refine zR [4] [] (Ak 1 tv) ?_
   refine Ja5 ?_
   exact zT [] (An (Ak 1 tv) (An (An (ci (o2 y2 y3)) (zr nilN)) (An (zr true) (An (zr true) (zr true)))))
theorem t60 (a b:Int):Ja4 Tryz.prog 60 (s60 a b):=by
 apply w60
 all_goals (intros; simp_all [cmpW])
 all_goals (rw [if_neg (by omega),if_neg (by omega)])
abbrev q32 (a:List Int) (b:List Int) (Pq:Prop):Prop:=a.length<=65536/\b.length<=65536->Pq
abbrev q33 (a:List Int) (b:List Int) (x0:Nat) (Pq:Prop):Prop:=(x0<=a.length/\x0<=b.length /\ ∀ (j:Nat),j < x0->a.getD j 0=b.getD j 0)->Pq
abbrev q34 (a:List Int) (b:List Int) (x0:Nat) (Pq:Prop):Prop:=q33 a b x0 (decide ((x0:Int) < (↑(a.length):Int))=true->Pq)
abbrev q35 (a:List Int) (b:List Int) (x0:Nat) (Pq:Prop):Prop:=q34 a b x0 (decide ((↑(b.length):Int)<=(x0:Int))=false->Pq)
abbrev q36 (a:List Int) (b:List Int) (x0:Nat) (Pq:Prop):Prop:=q35 a b x0 ((!decide (cmpW (a.getD x0 0) (b.getD x0 0)=0))=false->Pq)
theorem w41 (a:List Int) (b:List Int)
 (o0:q32 a b (0=(↑0:Int)))
 (o1:q32 a b (0<=a.length/\0<=b.length /\ ∀ (j:Nat),j < 0->a.getD j 0=b.getD j 0))
 (o2:q32 a b (∀ (x0:Nat),q34 a b x0 (0<=(x0:Int))))
 (o3:q32 a b (∀ (x0:Nat),q34 a b x0 ((x0:Int) < (↑(a.length):Int))))
 (o4:q32 a b (∀ (x0:Nat),q34 a b x0 (decide ((↑(b.length):Int)<=(x0:Int))=true->1=cmpL a b)))
 (o5:q32 a b (∀ (x0:Nat),q35 a b x0 (0<=(x0:Int))))
 (o6:q32 a b (∀ (x0:Nat),q35 a b x0 ((x0:Int) < (↑(b.length):Int))))
 (o7:q32 a b (∀ (x0:Nat),q35 a b x0 ((!decide (cmpW (a.getD x0 0) (b.getD x0 0)=0))=true->cmpW (a.getD x0 0) (b.getD x0 0)=cmpL a b)))
 (o8:q32 a b (∀ (x0:Nat),q36 a b x0 (inI ((x0:Int) + 1))))
 (o9:q32 a b (∀ (x0:Nat),q36 a b x0 ((x0:Int) + 1=(↑(x0 + 1):Int))))
 (o10:q32 a b (∀ (x0:Nat),q36 a b x0 (x0 + 1<=a.length/\x0 + 1<=b.length /\ ∀ (j:Nat),j < x0 + 1->a.getD j 0=b.getD j 0)))
 (o11:q32 a b (∀ (x0:Nat),q36 a b x0 (a.length - (x0 + 1) < a.length - x0)))
 (o12:q32 a b (∀ (x0:Nat),q33 a b x0 (decide ((x0:Int) < (↑(a.length):Int))=false->decide ((↑(a.length):Int) < (↑(b.length):Int))=true -> -1=cmpL a b)))
 (o13:q32 a b (∀ (x0:Nat),q33 a b x0 (decide ((x0:Int) < (↑(a.length):Int))=false->decide ((↑(a.length):Int) < (↑(b.length):Int))=false->0=cmpL a b))) :
  Ja4 Tryz.prog 41 (s41 a b):=by
 refine Ja7 Tryz.func41 rfl Tryz.call41 Jaw _ rfl rfl rfl rfl (Nat.le_of_ble_eq_true (by kernel_rfl)) (fun _ _ _ _ h=>h) ?_
 intro hpre C hC _ hE
 obtain ⟨P,w0,E0,av,hA,ro,df⟩:=C
 obtain ⟨rfl,rfl,rfl⟩:=hC
 refine Ja0 ?_
 refine zR [0,1] [] (Ak 1 tv) ?_
 refine Ja0 ?_
 refine Ja0 ?_
 refine zR [0,1,9,10,11] [] (Ak 3 tv) ?_
 refine Ja2 ?_
 refine zL (Hint.ann (h41 a b) [(0,Ja6 a),(1,Ja6 b),(9,Ja6 a),(10,iv (↑(a.length):Int))] [] 10032) (zE hE [] [] [0,1,9,10] [] (An (An (An (zr (Ja6 a)) (zr true)) (An (An (zr (Ja6 b)) (zr true)) (An (An (zr (Ja6 a)) (zr true)) (An (An (zr (iv (↑(a.length):Int))) (zr true)) (An (An (ci (o0 hpre)) (zr nilN)) tv))))) (Ak 1 (An (zr true) (zr true))))) (o1 hpre) (fun (x0:Nat) hx0 => ?_)
 refine Ja0 ?_
 refine zR [0,1,9,10,11,12] [] (Ak 1 tv) ?_
 refine Ja0 ?_
 refine zI (decide ((x0:Int) < (↑(a.length):Int))) (fun y1 => ?_) (fun y1 => ?_)
 ·refine Ja3 ?_
  refine Ja0 ?_
  refine Ja2 ?_
  refine Ja0 ?_
  refine zR [0,1,9,10,11,5,6] [] (Ak 1 (An (An (o2 hpre x0 hx0 y1) (o3 hpre x0 hx0 y1)) (Ak 3 tv))) ?_
  refine Ja0 ?_
  refine Ja0 ?_
  refine zR [0,1,9,10,11,5,6,19] [] (Ak 4 tv) ?_
  refine zI (decide ((↑(b.length):Int)<=(x0:Int))) (fun y2 => ?_) (fun y2 => ?_)
  ·refine Ja0 ?_
   refine zR [4] [] (Ak 1 tv) ?_
   refine Ja5 ?_
   exact zT [] (An (Ak 1 tv) (An (An (ci (o4 hpre x0 hx0 y1 y2)) (zr nilN)) (An (zr true) (An (zr true) (zr true)))))
  ·refine Ja3 ?_
   refine Ja0 ?_
   refine zR [0,1,9,10,11,6,7] [] (Ak 2 (An (An (o5 hpre x0 hx0 y1 y2) (o6 hpre x0 hx0 y1 y2)) (Ak 2 tv))) ?_
   refine Ja0 ?_
   refine zC ([(2,CallSpec.eq (s60 (a.getD x0 0) (b.getD x0 0)) [true,true])]) [0,1,9,10,11,8] [] (Ak 2 (An (An (An (zr (iv (a.getD x0 0))) (An (zr (iv (b.getD x0 0))) tv)) (An (t60 (a.getD x0 0) (b.getD x0 0)) (Ak 2 (fun (i3:Env)=>tv)))) (Ak 1 tv))) ?_
   refine Ja0 ?_
   refine zR [0,1,9,10,11,8,28] [] (Ak 2 tv) ?_
   refine zI (!decide (cmpW (a.getD x0 0) (b.getD x0 0)=0)) (fun y4 => ?_) (fun y4 => ?_)
   ·refine Ja0 ?_
    refine zR [4] [] (Ak 2 tv) ?_
    refine Ja5 ?_
    exact zT [] (An (Ak 1 tv) (An (An (ci (o7 hpre x0 hx0 y1 y2 y4)) (zr nilN)) (An (zr true) (An (zr true) (zr true)))))
   ·refine Ja3 ?_
    refine zR [0,1,9,10,11] [] (An (o8 hpre x0 hx0 y1 y2 y4) (Ak 1 tv)) ?_
    exact zn (zE hE [] [] [0,1,9,10] [] (An (An (An (zr (Ja6 a)) (zr true)) (An (An (zr (Ja6 b)) (zr true)) (An (An (zr (Ja6 a)) (zr true)) (An (An (zr (iv (↑(a.length):Int))) (zr true)) (An (An (ci (o9 hpre x0 hx0 y1 y2 y4)) (zr nilN)) tv))))) (Ak 1 (An (zr true) (zr true))))) (o10 hpre x0 hx0 y1 y2 y4) (o11 hpre x0 hx0 y1 y2 y4)
 ·refine Jaa ?_
  refine Ja0 ?_
  refine Ja0 ?_
  refine zR [35] [] (Ak 5 tv) ?_
  refine zI (decide ((↑(a.length):Int) < (↑(b.length):Int))) (fun y5 => ?_) (fun y5 => ?_)
  ·refine Ja0 ?_
   refine zR [4] [] (Ak 1 tv) ?_
   refine Ja5 ?_
   exact zT [] (An (Ak 1 tv) (An (An (ci (o12 hpre x0 hx0 y1 y5)) (zr nilN)) (An (zr true) (An (zr true) (zr true)))))
  ·refine Ja3 ?_
   refine Ja0 ?_
   refine zR [4] [] (Ak 1 tv) ?_
   refine Ja5 ?_
   exact zT [] (An (Ak 1 tv) (An (An (ci (o13 hpre x0 hx0 y1 y5)) (zr nilN)) (An (zr true) (An (zr true) (zr true)))))
theorem t41 (a b:List Int):Ja4 Tryz.prog 41 (s41 a b):=by
 apply w41
 all_goals (try delta q32 q33 q34 q35 q36)
 case o0=>intros; rfl
 case o1=>exact fun _=>⟨Nat.zero_le _,Nat.zero_le _,fun j hj=>absurd hj (Nat.not_lt_zero _)⟩
 all_goals (intro hp x hx hl; obtain ⟨h1,h2,h3⟩:=hx; simp only [decide_eq_true_eq,decide_eq_false_iff_not] at hl; have e:=JpW x a b h1 h2 h3)
 case o2=>omega
 case o3=>exact hl
 case o4 =>
  intro h; simp only [decide_eq_true_eq] at h
  rw [e,JcE (l:=a) (by omega),Je4 (l:=b) (by omega)]; rfl
 case o12 =>
  intro h; simp only [decide_eq_true_eq] at h
  rw [e,JcE (l:=b) (by omega),Je4 (l:=a) (by omega)]; rfl
 case o13 =>
  intro h; simp only [decide_eq_false_iff_not] at h
  rw [e,Je4 (l:=a) (by omega),Je4 (l:=b) (by omega)]; rfl
 all_goals (intro h; simp only [decide_eq_false_iff_not] at h)
 case o5=>omega
 case o6=>omega
 all_goals (intro h4)
 case o7 =>
  rw [e,JcE (l:=a) (by omega),JcE (l:=b) (by omega),cmpL,if_neg (by simpa using h4)]
 case o8=>exact ⟨by omega,by omega⟩
 case o9=>rfl
 case o10 =>
  simp only [Bool.not_eq_false',decide_eq_true_eq] at h4
  exact ⟨by omega,by omega,Jad h3 (Jif h4)⟩
 case o11=>omega
abbrev q37 (ws:List Int) (Pq:Prop):Prop:=ws.length<=65536->Pq
abbrev q38 (ws:List Int) (x0:Nat) (Pq:Prop):Prop:=(x0<=ws.length /\ ∀ (j:Nat),j < x0->ws.getD j 0=0)->Pq
abbrev q39 (ws:List Int) (x0:Nat) (Pq:Prop):Prop:=q38 ws x0 (decide ((x0:Int) < (↑(ws.length):Int))=true->Pq)
theorem w40 (ws:List Int)
 (o0:List.length ws<=65536->0=(↑0:Int))
 (o1:q37 ws (0<=ws.length /\ ∀ (j:Nat),j < 0->ws.getD j 0=0))
 (o2:q37 ws (∀ (x0:Nat),q39 ws x0 (0<=(x0:Int))))
 (o3:q37 ws (∀ (x0:Nat),q39 ws x0 ((x0:Int) < (↑(ws.length):Int))))
 (o4:q37 ws (∀ (x0:Nat),q39 ws x0 ((!decide (ws.getD x0 0=0))=true->ws.getD x0 0=orI ws)))
 (o5:q37 ws (∀ (x0:Nat),q39 ws x0 ((!decide (ws.getD x0 0=0))=false->inI ((x0:Int) + 1))))
 (o6:q37 ws (∀ (x0:Nat),q39 ws x0 ((!decide (ws.getD x0 0=0))=false->(x0:Int) + 1=(↑(x0 + 1):Int))))
 (o7:q37 ws (∀ (x0:Nat),q39 ws x0 ((!decide (ws.getD x0 0=0))=false->x0 + 1<=ws.length /\ ∀ (j:Nat),j < x0 + 1->ws.getD j 0=0)))
 (o8:q37 ws (∀ (x0:Nat),q39 ws x0 ((!decide (ws.getD x0 0=0))=false->ws.length - (x0 + 1) < ws.length - x0)))
 (o9:q37 ws (∀ (x0:Nat),q38 ws x0 (decide ((x0:Int) < (↑(ws.length):Int))=false->0=orI ws))) :
  Ja4 Tryz.prog 40 (s40 ws):=by
 refine Ja7 Tryz.func40 rfl Tryz.call40 Jaw _ rfl rfl rfl rfl (Nat.le_of_ble_eq_true (by kernel_rfl)) (fun _ _ _ _ h=>h) ?_
 intro hpre C hC _ hE
 obtain ⟨P,w0,E0,av,hA,ro,df⟩:=C
 obtain ⟨rfl,rfl,rfl⟩:=hC
 refine Ja0 ?_
 refine zR [0] [] (Ak 1 tv) ?_
 refine Ja0 ?_
 refine zR [0,3] [] (Ak 1 tv) ?_
 refine Ja0 ?_
 refine Ja0 ?_
 refine zR [3,6,7,8] [] (Ak 3 tv) ?_
 refine Ja2 ?_
 refine zL (Hint.ann (h40 ws) [(3,iv 0),(6,Ja6 ws),(7,iv (↑(ws.length):Int))] [] 10040) (zE hE [] [] [3,6,7] [] (An (An (An (zr (iv 0)) (zr true)) (An (An (zr (Ja6 ws)) (zr true)) (An (An (zr (iv (↑(ws.length):Int))) (zr true)) (An (An (ci (o0 hpre)) (zr nilN)) tv)))) (Ak 1 (An (zr true) (zr true))))) (o1 hpre) (fun (x0:Nat) hx0 => ?_)
 refine Ja0 ?_
 refine zR [3,6,7,8,9] [] (Ak 1 tv) ?_
 refine Ja0 ?_
 refine zI (decide ((x0:Int) < (↑(ws.length):Int))) (fun y1 => ?_) (fun y1 => ?_)
 ·refine Ja3 ?_
  refine Ja0 ?_
  refine Ja2 ?_
  refine Ja0 ?_
  refine zR [3,6,7,8,5] [] (An (An (o2 hpre x0 hx0 y1) (o3 hpre x0 hx0 y1)) (Ak 2 tv)) ?_
  refine Ja0 ?_
  refine zR [3,6,7,8,5,14] [] (Ak 3 tv) ?_
  refine zI (!decide (ws.getD x0 0=0)) (fun y2 => ?_) (fun y2 => ?_)
  ·refine Ja0 ?_
   refine zR [2] [] (Ak 2 tv) ?_
   refine Ja5 ?_
   exact zT [] (An (Ak 1 tv) (An (An (ci (o4 hpre x0 hx0 y1 y2)) (zr nilN)) (An (zr true) (An (zr true) (zr true)))))
  ·refine Ja3 ?_
   refine zR [3,6,7,8] [] (An (o5 hpre x0 hx0 y1 y2) (Ak 1 tv)) ?_
   exact zn (zE hE [] [] [3,6,7] [] (An (An (An (zr (iv 0)) (zr true)) (An (An (zr (Ja6 ws)) (zr true)) (An (An (zr (iv (↑(ws.length):Int))) (zr true)) (An (An (ci (o6 hpre x0 hx0 y1 y2)) (zr nilN)) tv)))) (Ak 1 (An (zr true) (zr true))))) (o7 hpre x0 hx0 y1 y2) (o8 hpre x0 hx0 y1 y2)
 ·refine Jaa ?_
  refine Ja0 ?_
  refine zR [2] [] (Ak 2 tv) ?_
  refine Ja5 ?_
  exact zT [] (An (Ak 1 tv) (An (An (ci (o9 hpre x0 hx0 y1)) (zr nilN)) (An (zr true) (An (zr true) (zr true)))))
theorem t40 (ws:List Int):Ja4 Tryz.prog 40 (s40 ws):=by
 apply w40
 all_goals (try delta q37 q38 q39)
 case o0=>intros; rfl
 case o1=>exact fun _=>⟨Nat.zero_le _,fun j hj=>absurd hj (Nat.not_lt_zero _)⟩
 all_goals (intro hp x hx hl; obtain ⟨h1,h3⟩:=hx; simp only [decide_eq_true_eq,decide_eq_false_iff_not] at hl)
 case o2=>omega
 case o3=>exact hl
 case o9=>exact (Jom (fun j hj=>h3 j (by omega))).symm
 all_goals (intro h4)
 case o4=>exact (JpX (by omega) h3 (by simpa using h4)).symm
 case o5=>exact ⟨by omega,by omega⟩
 case o6=>rfl
 case o7=>exact ⟨by omega,Jad h3 (by simpa using h4)⟩
 case o8=>omega
abbrev q3a (f:Frm) (Pq:Prop):Prop:=Sound f->Pq
abbrev q3b (f:Frm) (x0:Nat) (Pq:Prop):Prop:=x0<=2 ^ f.pieces.length->Pq
abbrev q3c (f:Frm) (x0:Nat) (Pq:Prop):Prop:=q3b f x0 (decide ((x0:Int) < 1 * 2 ^ f.pieces.length)=true->Pq)
abbrev q3d (f:Frm) (x2:Nat) (Pq:Prop):Prop:=x2<=f.pieces.length->Pq
abbrev q3e (f:Frm) (x2:Nat) (Pq:Prop):Prop:=q3d f x2 (decide ((x2:Int) < (↑(f.pieces.length):Int))=true->Pq)
abbrev q3f (f:Frm) (x0:Nat) (x2:Nat) (Pq:Prop):Prop:=q3e f x2 (decide ((x0:Int) / 2 ^ x2 % 2=1)=true->Pq)
abbrev q3g (f:Frm) (x0:Nat) (x2:Nat) (Pq:Prop):Prop:=q3e f x2 (decide ((x0:Int) / 2 ^ x2 % 2=1)=false->Pq)
abbrev q3h (f:Frm) (x2:Nat) (Pq:Prop):Prop:=q3d f x2 (decide ((x2:Int) < (↑(f.pieces.length):Int))=false->Pq)
abbrev q3i (f:Frm) (x0:Nat) (x2:Nat) (Pq:Prop):Prop:=q3h f x2 (Option.isSome (Ja9 f x0)=true->Pq)
abbrev q3j (f:Frm) (x0:Nat) (x2:Nat) (Pq:Prop):Prop:=q3h f x2 ((!bif Option.isSome (Ja9 f x0) then decide (0<=orI [Jau f (outP f (x0:Int)) - outN (Ja9 f x0),(↑((outP f (x0:Int)).length):Int) - (↑((outL (Ja9 f x0)).length):Int),cmpL (outP f (x0:Int)) (outL (Ja9 f x0))]) else false)=true->Pq)
abbrev q3k (f:Frm) (x0:Nat) (x2:Nat) (Pq:Prop):Prop:=q3h f x2 ((bif bif Option.isSome (Ja9 f x0) then decide (0<=orI [Jau f (outP f (x0:Int)) - outN (Ja9 f x0),(↑((outP f (x0:Int)).length):Int) - (↑((outL (Ja9 f x0)).length):Int),cmpL (outP f (x0:Int)) (outL (Ja9 f x0))]) else false then true else !Option.isSome (Jb9 f (x0:Int)))=true->Pq)
abbrev q3l (f:Frm) (x0:Nat) (x2:Nat) (Pq:Prop):Prop:=q3h f x2 ((bif bif Option.isSome (Ja9 f x0) then decide (0<=orI [Jau f (outP f (x0:Int)) - outN (Ja9 f x0),(↑((outP f (x0:Int)).length):Int) - (↑((outL (Ja9 f x0)).length):Int),cmpL (outP f (x0:Int)) (outL (Ja9 f x0))]) else false then true else !Option.isSome (Jb9 f (x0:Int)))=false->Pq)
abbrev q3m (f:Frm) (x0:Nat) (Pq:Prop):Prop:=q3b f x0 (decide ((x0:Int) < 1 * 2 ^ f.pieces.length)=false->Pq)
theorem w27 (f:Frm)
 (o0:q3a f (0<=(↑(f.pieces.length):Int)))
 (o1:q3a f ((↑(f.pieces.length):Int)<=62))
 (o2:q3a f (inI (1 * 2 ^ f.pieces.length)))
 (o3:q3a f (List.length (outL (Ja9 f 0))=0))
 (o4:q3a f (0=outN (Ja9 f 0)))
 (o5:q3a f (false=Option.isSome (Ja9 f 0)))
 (o6:q3a f (0=(↑0:Int)))
 (o7:q3a f (0<=2 ^ List.length (Frm.pieces f)))
 (o8:q3a f (∀ (x0:Nat),q3c f x0 (0=Jau f (JaN (x0:Int) 0))))
 (o9:q3a f (∀ (x0:Nat),q3c f x0 (0=(↑0:Int))))
 (o10:q3a f (∀ (x0:Nat),q3c f x0 ((JaN (x0:Int) 0).length=0)))
 (o11:q3a f (∀ (x0:Nat),q3c f x0 (0<=f.pieces.length)))
 (o12:q3a f (∀ (x0:Nat),q3c f x0 (∀ (x2:Nat),q3e f x2 (0<=(x2:Int)))))
 (o13:q3a f (∀ (x0:Nat),q3c f x0 (∀ (x2:Nat),q3e f x2 ((x2:Int) < (↑(f.pieces.length):Int)))))
 (o14:q3a f (∀ (x0:Nat),q3c f x0 (∀ (x2:Nat),q3e f x2 (0<=(x2:Int)))))
 (o15:q3a f (∀ (x0:Nat),q3c f x0 (∀ (x2:Nat),q3e f x2 ((x2:Int)<=62))))
 (o16:q3a f (∀ (x0:Nat),q3c f x0 (∀ (x2:Nat),q3e f x2 (0<=(x0:Int) / 2 ^ x2))))
 (o17:q3a f (∀ (x0:Nat),q3c f x0 (∀ (x2:Nat),q3e f x2 (inI ((x0:Int) / 2 ^ x2)))))
 (o18:q3a f (∀ (x0:Nat),q3c f x0 (∀ (x2:Nat),q3f f x0 x2 ((JaN (x0:Int) x2).length + 1<=65536))))
 (o19:q3a f (∀ (x0:Nat),q3c f x0 (∀ (x2:Nat),q3f f x0 x2 (inI (Jau f (JaN (x0:Int) x2) + (pc f x2).pence)))))
 (o20:q3a f (∀ (x0:Nat),q3c f x0 (∀ (x2:Nat),q3f f x0 x2 (inI ((x2:Int) + 1)))))
 (o21:q3a f (∀ (x0:Nat),q3c f x0 (∀ (x2:Nat),q3f f x0 x2 (Jau f (JaN (x0:Int) x2) + (pc f x2).pence=Jau f (JaN (x0:Int) (x2 + 1))))))
 (o22:q3a f (∀ (x0:Nat),q3c f x0 (∀ (x2:Nat),q3f f x0 x2 ((x2:Int) + 1=(↑(x2 + 1):Int)))))
 (o23:q3a f (∀ (x0:Nat),q3c f x0 (∀ (x2:Nat),q3f f x0 x2 ((JaN (x0:Int) x2).length + 1=(JaN (x0:Int) (x2 + 1)).length))))
 (o24:q3a f (∀ (x0:Nat),q3c f x0 (∀ (x2:Nat),q3f f x0 x2 (∀ (i5:Nat),i5 < (JaN (x0:Int) x2).length + 1->catF (JaN (x0:Int) x2).length (fun (i:Nat)=>[iv ((JaN (x0:Int) x2).getD i 0)]) (fun (j:Nat)=>List.getD [[iv (x2:Int)]] j (TI.za ti3)) i5 = [iv ((JaN (x0:Int) (x2 + 1)).getD i5 0)]))))
 (o25:q3a f (∀ (x0:Nat),q3c f x0 (∀ (x2:Nat),q3f f x0 x2 (x2 + 1<=f.pieces.length))))
 (o26:q3a f (∀ (x0:Nat),q3c f x0 (∀ (x2:Nat),q3f f x0 x2 (f.pieces.length - (x2 + 1) < f.pieces.length - x2))))
 (o27:q3a f (∀ (x0:Nat),q3c f x0 (∀ (x2:Nat),q3g f x0 x2 (inI ((x2:Int) + 1)))))
 (o28:q3a f (∀ (x0:Nat),q3c f x0 (∀ (x2:Nat),q3g f x0 x2 (Jau f (JaN (x0:Int) x2)=Jau f (JaN (x0:Int) (x2 + 1))))))
 (o29:q3a f (∀ (x0:Nat),q3c f x0 (∀ (x2:Nat),q3g f x0 x2 ((x2:Int) + 1=(↑(x2 + 1):Int)))))
 (o30:q3a f (∀ (x0:Nat),q3c f x0 (∀ (x2:Nat),q3g f x0 x2 ((JaN (x0:Int) x2).length=(JaN (x0:Int) (x2 + 1)).length))))
 (o31:q3a f (∀ (x0:Nat),q3c f x0 (∀ (x2:Nat),q3g f x0 x2 (∀ (i7:Nat),i7 < (JaN (x0:Int) x2).length -> [iv ((JaN (x0:Int) x2).getD i7 0)] = [iv ((JaN (x0:Int) (x2 + 1)).getD i7 0)]))))
 (o32:q3a f (∀ (x0:Nat),q3c f x0 (∀ (x2:Nat),q3g f x0 x2 (x2 + 1<=f.pieces.length))))
 (o33:q3a f (∀ (x0:Nat),q3c f x0 (∀ (x2:Nat),q3g f x0 x2 (f.pieces.length - (x2 + 1) < f.pieces.length - x2))))
 (o34:q3a f (∀ (x0:Nat),q3c f x0 (∀ (x2:Nat),q3i f x0 x2 (inI (Jau f (JaN (x0:Int) x2) - outN (Ja9 f x0))))))
 (o35:q3a f (∀ (x0:Nat),q3c f x0 (∀ (x2:Nat),q3i f x0 x2 (inI ((↑((JaN (x0:Int) x2).length):Int) - (↑((outL (Ja9 f x0)).length):Int))))))
 (o36:q3a f (∀ (x0:Nat),q3c f x0 (∀ (x2:Nat),q3i f x0 x2 ((JaN (x0:Int) x2).length=(outP f (x0:Int)).length))))
 (o37:q3a f (∀ (x0:Nat),q3c f x0 (∀ (x2:Nat),q3i f x0 x2 (∀ (i30:Nat),i30 < (outP f (x0:Int)).length -> [iv ((JaN (x0:Int) x2).getD i30 0)] = [iv ((outP f (x0:Int)).getD i30 0)]))))
 (o38:q3a f (∀ (x0:Nat),q3c f x0 (∀ (x2:Nat),q3i f x0 x2 ((outP f (x0:Int)).length<=65536))))
 (o39:q3a f (∀ (x0:Nat),q3c f x0 (∀ (x2:Nat),q3i f x0 x2 ((outL (Ja9 f x0)).length<=65536))))
 (o40:q3a f (∀ (x0:Nat),q3c f x0 (∀ (x2:Nat),q3i f x0 x2 (3=List.length [Jau f (outP f (x0:Int)) - outN (Ja9 f x0),(↑((outP f (x0:Int)).length):Int) - (↑((outL (Ja9 f x0)).length):Int),cmpL (outP f (x0:Int)) (outL (Ja9 f x0))]))))
 (o41:q3a f (∀ (x0:Nat),q3c f x0 (∀ (x2:Nat),q3i f x0 x2 (∀ (i41:Nat),i41 < List.length [Jau f (outP f (x0:Int)) - outN (Ja9 f x0),(↑((outP f (x0:Int)).length):Int) - (↑((outL (Ja9 f x0)).length):Int),cmpL (outP f (x0:Int)) (outL (Ja9 f x0))]->List.getD [[iv (Jau f (JaN (x0:Int) x2) - outN (Ja9 f x0))],[iv ((↑((JaN (x0:Int) x2).length):Int) - (↑((outL (Ja9 f x0)).length):Int))],[iv (cmpL (outP f (x0:Int)) (outL (Ja9 f x0)))]] i41 (TI.za ti3) = [iv (List.getD [Jau f (outP f (x0:Int)) - outN (Ja9 f x0),(↑((outP f (x0:Int)).length):Int) - (↑((outL (Ja9 f x0)).length):Int),cmpL (outP f (x0:Int)) (outL (Ja9 f x0))] i41 0)]))))
 (o42:q3a f (∀ (x0:Nat),q3c f x0 (∀ (x2:Nat),q3i f x0 x2 (List.length [Jau f (outP f (x0:Int)) - outN (Ja9 f x0),(↑((outP f (x0:Int)).length):Int) - (↑((outL (Ja9 f x0)).length):Int),cmpL (outP f (x0:Int)) (outL (Ja9 f x0))]<=65536))))
 (o43:q3a f (∀ (x0:Nat),q3c f x0 (∀ (x2:Nat),q3j f x0 x2 (0<=(x0:Int)))))
 (o44:q3a f (∀ (x0:Nat),q3c f x0 (∀ (x2:Nat),q3j f x0 x2 ((x0:Int)<=1000))))
 (o45:q3a f (∀ (x0:Nat),q3c f x0 (∀ (x2:Nat),q3h f x2 ((bif Option.isSome (Ja9 f x0) then decide (0<=orI [Jau f (outP f (x0:Int)) - outN (Ja9 f x0),(↑((outP f (x0:Int)).length):Int) - (↑((outL (Ja9 f x0)).length):Int),cmpL (outP f (x0:Int)) (outL (Ja9 f x0))]) else false)=false->(!bif Option.isSome (Ja9 f x0) then decide (0<=orI [Jau f (outP f (x0:Int)) - outN (Ja9 f x0),(↑((outP f (x0:Int)).length):Int) - (↑((outL (Ja9 f x0)).length):Int),cmpL (outP f (x0:Int)) (outL (Ja9 f x0))]) else false)=true))))
 (o46:q3a f (∀ (x0:Nat),q3c f x0 (∀ (x2:Nat),q3k f x0 x2 (inI ((x0:Int) + 1)))))
 (o47:q3a f (∀ (x0:Nat),q3c f x0 (∀ (x2:Nat),q3k f x0 x2 ((outL (Ja9 f x0)).length=(outL (Ja9 f (x0 + 1))).length))))
 (o48:q3a f (∀ (x0:Nat),q3c f x0 (∀ (x2:Nat),q3k f x0 x2 (∀ (i59:Nat),i59 < (outL (Ja9 f (x0 + 1))).length -> [iv ((outL (Ja9 f x0)).getD i59 0)] = [iv ((outL (Ja9 f (x0 + 1))).getD i59 0)]))))
 (o49:q3a f (∀ (x0:Nat),q3c f x0 (∀ (x2:Nat),q3k f x0 x2 (outN (Ja9 f x0)=outN (Ja9 f (x0 + 1))))))
 (o50:q3a f (∀ (x0:Nat),q3c f x0 (∀ (x2:Nat),q3k f x0 x2 (Option.isSome (Ja9 f x0)=Option.isSome (Ja9 f (x0 + 1))))))
 (o51:q3a f (∀ (x0:Nat),q3c f x0 (∀ (x2:Nat),q3k f x0 x2 ((x0:Int) + 1=(↑(x0 + 1):Int)))))
 (o52:q3a f (∀ (x0:Nat),q3c f x0 (∀ (x2:Nat),q3k f x0 x2 (x0 + 1<=2 ^ f.pieces.length))))
 (o53:q3a f (∀ (x0:Nat),q3c f x0 (∀ (x2:Nat),q3k f x0 x2 (2 ^ f.pieces.length - (x0 + 1) < 2 ^ f.pieces.length - x0))))
 (o54:q3a f (∀ (x0:Nat),q3c f x0 (∀ (x2:Nat),q3l f x0 x2 (inI ((x0:Int) + 1)))))
 (o55:q3a f (∀ (x0:Nat),q3c f x0 (∀ (x2:Nat),q3l f x0 x2 ((JaN (x0:Int) x2).length=(outL (Ja9 f (x0 + 1))).length))))
 (o56:q3a f (∀ (x0:Nat),q3c f x0 (∀ (x2:Nat),q3l f x0 x2 (∀ (i61:Nat),i61 < (outL (Ja9 f (x0 + 1))).length -> [iv ((JaN (x0:Int) x2).getD i61 0)] = [iv ((outL (Ja9 f (x0 + 1))).getD i61 0)]))))
 (o57:q3a f (∀ (x0:Nat),q3c f x0 (∀ (x2:Nat),q3l f x0 x2 (Jau f (JaN (x0:Int) x2)=outN (Ja9 f (x0 + 1))))))
 (o58:q3a f (∀ (x0:Nat),q3c f x0 (∀ (x2:Nat),q3l f x0 x2 (true=Option.isSome (Ja9 f (x0 + 1))))))
 (o59:q3a f (∀ (x0:Nat),q3c f x0 (∀ (x2:Nat),q3l f x0 x2 ((x0:Int) + 1=(↑(x0 + 1):Int)))))
 (o60:q3a f (∀ (x0:Nat),q3c f x0 (∀ (x2:Nat),q3l f x0 x2 (x0 + 1<=2 ^ f.pieces.length))))
 (o61:q3a f (∀ (x0:Nat),q3c f x0 (∀ (x2:Nat),q3l f x0 x2 (2 ^ f.pieces.length - (x0 + 1) < 2 ^ f.pieces.length - x0))))
 (o62:q3a f (∀ (x0:Nat),q3m f x0 ((outL (Ja9 f x0)).length=(outL (refP f)).length)))
 (o63:q3a f (∀ (x0:Nat),q3m f x0 (∀ (i63:Nat),i63 < (outL (refP f)).length -> [iv ((outL (Ja9 f x0)).getD i63 0)] = [iv ((outL (refP f)).getD i63 0)])))
 (o64:q3a f (∀ (x0:Nat),q3m f x0 (outN (Ja9 f x0)=outN (refP f))))
 (o65:q3a f (∀ (x0:Nat),q3m f x0 (Option.isSome (Ja9 f x0)=Option.isSome (refP f)))) :
  Ja4 Tryz.prog 27 (s27 f):=by
 refine Ja7 Tryz.func27 rfl Tryz.call27 Jaw _ rfl rfl rfl rfl (Nat.le_of_ble_eq_true (by kernel_rfl)) (fun _ _ _ _ h=>h) ?_
 intro hpre C hC _ hE
 obtain ⟨P,w0,E0,av,hA,ro,df⟩:=C
 obtain ⟨rfl,rfl,rfl⟩:=hC
 refine Ja0 ?_
 refine zR [1,2,3,4] [0] (Ak 4 tv) ?_
 refine Ja0 ?_
 refine Ja0 ?_
 refine zR [1,2,3,4,14,15] [0] (Ak 4 (An (An (o0 hpre) (An (o1 hpre) (o2 hpre))) (Ak 1 tv))) ?_
 refine Ja2 ?_
 refine zL (Hint.ann (h27a f) [(1,AV.ptr 0 []),(14,iv (1 * 2 ^ f.pieces.length))] [(0,OB.cells 71 (cFrm f))] 10080) (zE hE [] [(0,.same 0)] [14] [0] (An (An (An (zr (some (Src.same 0))) (zr nilP)) (An (An (zr (iv (1 * 2 ^ f.pieces.length))) (zr true)) (An (o3 hpre) (An (An (ci (o4 hpre)) (zr nilN)) (An (An (cb (o5 hpre)) (zr nilN)) (An (An (ci (o6 hpre)) (zr nilN)) tv)))))) (An (An (An (zr (OB.cells 71 (cFrm f))) (zr true)) tv) (An (zr true) (zr true))))) (o7 hpre) (fun (x0:Nat) hx0 => ?_)
 refine Ja0 ?_
 refine zR [1,14,2,3,4,15,16] [0] (Ak 1 tv) ?_
 refine Ja0 ?_
 refine zI (decide ((x0:Int) < 1 * 2 ^ f.pieces.length)) (fun y1 => ?_) (fun y1 => ?_)
 ·refine Ja3 ?_
  refine Ja0 ?_
  refine Ja2 ?_
  refine Ja0 ?_
  refine zR [1,14,2,3,4,15,5] [0] (Ak 2 tv) ?_
  refine Ja0 ?_
  refine zR [1,14,2,3,4,15,5,6] [0] (Ak 1 tv) ?_
  refine Ja0 ?_
  refine zR [1,14,2,3,4,15,5,6,7] [0] (Ak 1 tv) ?_
  refine Ja0 ?_
  refine Ja0 ?_
  refine zR [1,14,2,3,4,15,5,6,7,20,21,22] [0] (Ak 5 tv) ?_
  refine Ja2 ?_
  refine zL (Hint.ann (h27b f x0) [(1,AV.ptr 0 []),(14,iv (1 * 2 ^ f.pieces.length)),(2,Ja6 (outL (Ja9 f x0))),(3,iv (outN (Ja9 f x0))),(4,bv (Option.isSome (Ja9 f x0))),(15,iv (x0:Int)),(5,iv (x0:Int)),(20,AV.sl 3 f.pieces.length fun (i:Nat)=>JaD (pc f i)),(21,iv (↑(f.pieces.length):Int))] [(0,OB.cells 71 (cFrm f))] 20160) (zE hE [] [(0,.same 0),(5000,.nil)] [14,2,3,4,15,5,20,21] [0] (An (An (An (zr (some (Src.same 0))) (zr nilP)) (An (An (zr (iv (1 * 2 ^ f.pieces.length))) (zr true)) (An (An (zr (Ja6 (outL (Ja9 f x0)))) (zr true)) (An (An (zr (iv (outN (Ja9 f x0)))) (zr true)) (An (An (zr (bv (Option.isSome (Ja9 f x0)))) (zr true)) (An (An (zr (iv (x0:Int))) (zr true)) (An (An (zr (iv (x0:Int))) (zr true)) (An (An (zr (AV.sl 3 f.pieces.length fun (i:Nat)=>JaD (pc f i))) (zr true)) (An (An (zr (iv (↑(f.pieces.length):Int))) (zr true)) (An (zr (some Src.nil)) (An (An (ci (o8 hpre x0 hx0 y1)) (zr nilN)) (An (An (ci (o9 hpre x0 hx0 y1)) (zr nilN)) tv)))))))))))) (An (An (An (zr (OB.cells 71 (cFrm f))) (zr true)) (An (o10 hpre x0 hx0 y1) tv)) (An (zr true) (zr true))))) (o11 hpre x0 hx0 y1) (fun (x2:Nat) hx2 => ?_)
  refine Ja0 ?_
  refine zR [1,14,2,3,4,15,5,20,21,6,7,22,23] [0,5000] (Ak 1 tv) ?_
  refine Ja0 ?_
  refine zI (decide ((x2:Int) < (↑(f.pieces.length):Int))) (fun y3 => ?_) (fun y3 => ?_)
  ·refine Ja3 ?_
   refine Ja0 ?_
   refine Ja2 ?_
   refine Ja0 ?_
   refine zR [1,14,2,3,4,15,5,20,21,6,7,22,9,8] [0,5000,20192] (Ak 1 (An (An (o12 hpre x0 hx0 y1 x2 hx2 y3) (o13 hpre x0 hx0 y1 x2 hx2 y3)) (Ak 4 tv))) ?_
   refine Ja0 ?_
   refine zR [1,14,2,3,4,15,5,20,21,6,7,22,9,8,31] [0,5000,20192] (Ak 2 (An (An (o14 hpre x0 hx0 y1 x2 hx2 y3) (o15 hpre x0 hx0 y1 x2 hx2 y3)) (An (An (o16 hpre x0 hx0 y1 x2 hx2 y3) (An (zr (1:Int)) (o17 hpre x0 hx0 y1 x2 hx2 y3))) (Ak 1 tv)))) ?_
   refine zI (decide ((x0:Int) / 2 ^ x2 % 2=1)) (fun y4 => ?_) (fun y4 => ?_)
   ·refine Ja0 ?_
    refine zR [1,14,2,3,4,15,5,20,21,6,7,22,9] [0,20280,20192] (Ak 3 (An (o18 hpre x0 hx0 y1 x2 hx2 y3 y4) (Ak 1 tv))) ?_
    refine zR [1,14,2,3,4,15,5,20,21,6,7,22] [0,20280] (Ak 3 (An (o19 hpre x0 hx0 y1 x2 hx2 y3 y4) (Ak 1 tv))) ?_
    refine zR [1,14,2,3,4,15,5,20,21,6,7,22] [0,20280] (An (o20 hpre x0 hx0 y1 x2 hx2 y3 y4) (Ak 1 tv)) ?_
    exact zn (zE hE [] [(0,.same 0),(5000,.same 20280)] [14,2,3,4,15,5,20,21] [0] (An (An (An (zr (some (Src.same 0))) (zr nilP)) (An (An (zr (iv (1 * 2 ^ f.pieces.length))) (zr true)) (An (An (zr (Ja6 (outL (Ja9 f x0)))) (zr true)) (An (An (zr (iv (outN (Ja9 f x0)))) (zr true)) (An (An (zr (bv (Option.isSome (Ja9 f x0)))) (zr true)) (An (An (zr (iv (x0:Int))) (zr true)) (An (An (zr (iv (x0:Int))) (zr true)) (An (An (zr (AV.sl 3 f.pieces.length fun (i:Nat)=>JaD (pc f i))) (zr true)) (An (An (zr (iv (↑(f.pieces.length):Int))) (zr true)) (An (zr (some (Src.same 20280))) (An (An (ci (o21 hpre x0 hx0 y1 x2 hx2 y3 y4)) (zr nilN)) (An (An (ci (o22 hpre x0 hx0 y1 x2 hx2 y3 y4)) (zr nilN)) tv)))))))))))) (An (An (An (zr (OB.cells 71 (cFrm f))) (zr true)) (An (An (zr 3) (An (zr 1) (An (o23 hpre x0 hx0 y1 x2 hx2 y3 y4) (fun (i5:Nat)=>(fun (y6:i5 < (JaN (x0:Int) x2).length + 1)=>(o24 hpre x0 hx0 y1 x2 hx2 y3 y4 i5 y6)))))) tv)) (An (zr true) (zr true))))) (o25 hpre x0 hx0 y1 x2 hx2 y3 y4) (o26 hpre x0 hx0 y1 x2 hx2 y3 y4)
   ·refine Ja3 ?_
    refine zR [1,14,2,3,4,15,5,20,21,6,7,22] [0,5000] (An (o27 hpre x0 hx0 y1 x2 hx2 y3 y4) (Ak 1 tv)) ?_
    exact zn (zE hE [] [(0,.same 0),(5000,.same 5000)] [14,2,3,4,15,5,20,21] [0] (An (An (An (zr (some (Src.same 0))) (zr nilP)) (An (An (zr (iv (1 * 2 ^ f.pieces.length))) (zr true)) (An (An (zr (Ja6 (outL (Ja9 f x0)))) (zr true)) (An (An (zr (iv (outN (Ja9 f x0)))) (zr true)) (An (An (zr (bv (Option.isSome (Ja9 f x0)))) (zr true)) (An (An (zr (iv (x0:Int))) (zr true)) (An (An (zr (iv (x0:Int))) (zr true)) (An (An (zr (AV.sl 3 f.pieces.length fun (i:Nat)=>JaD (pc f i))) (zr true)) (An (An (zr (iv (↑(f.pieces.length):Int))) (zr true)) (An (zr (some (Src.same 5000))) (An (An (ci (o28 hpre x0 hx0 y1 x2 hx2 y3 y4)) (zr nilN)) (An (An (ci (o29 hpre x0 hx0 y1 x2 hx2 y3 y4)) (zr nilN)) tv)))))))))))) (An (An (An (zr (OB.cells 71 (cFrm f))) (zr true)) (An (An (zr 3) (An (zr 1) (An (o30 hpre x0 hx0 y1 x2 hx2 y3 y4) (fun (i7:Nat)=>(fun (y8:i7 < (JaN (x0:Int) x2).length)=>(o31 hpre x0 hx0 y1 x2 hx2 y3 y4 i7 y8)))))) tv)) (An (zr true) (zr true))))) (o32 hpre x0 hx0 y1 x2 hx2 y3 y4) (o33 hpre x0 hx0 y1 x2 hx2 y3 y4)
  ·refine Jaa ?_
   refine Ja0 ?_
   refine Ja0 ?_
   refine Jbi (zE (st2:=ASt.mk [(1,AV.ptr 0 []),(14,iv (1 * 2 ^ f.pieces.length)),(2,Ja6 (outL (Ja9 f x0))),(3,iv (outN (Ja9 f x0))),(4,bv (Option.isSome (Ja9 f x0))),(15,iv (x0:Int)),(5,iv (x0:Int)),(20,AV.sl 3 f.pieces.length fun (i:Nat)=>JaD (pc f i)),(21,iv (↑(f.pieces.length):Int)),(6,AV.sl 1 (JaN (x0:Int) x2).length fun (i:Nat)=>[iv ((JaN (x0:Int) x2).getD i 0)]),(7,iv (Jau f (JaN (x0:Int) x2))),(22,iv (x2:Int)),(23,bv (decide ((x2:Int) < (↑(f.pieces.length):Int))))] [(0,OB.cells 71 (cFrm f))] 20168) hE [5000] [(0,.same 0)] [14,2,3,4,15,5,20,21,7,22,23] [0] (An (An (An (zr (some (Src.same 0))) (zr nilP)) (An (An (zr (iv (1 * 2 ^ f.pieces.length))) (zr true)) (An (An (zr (Ja6 (outL (Ja9 f x0)))) (zr true)) (An (An (zr (iv (outN (Ja9 f x0)))) (zr true)) (An (An (zr (bv (Option.isSome (Ja9 f x0)))) (zr true)) (An (An (zr (iv (x0:Int))) (zr true)) (An (An (zr (iv (x0:Int))) (zr true)) (An (An (zr (AV.sl 3 f.pieces.length fun (i:Nat)=>JaD (pc f i))) (zr true)) (An (An (zr (iv (↑(f.pieces.length):Int))) (zr true)) (An (An (zr 1) (An (zr (JaN (x0:Int) x2).length) (fun (i9:Nat)=>(fun (y10:i9 < (JaN (x0:Int) x2).length)=>(zr ([iv ((JaN (x0:Int) x2).getD i9 0)])))))) (An (An (zr (iv (Jau f (JaN (x0:Int) x2)))) (zr true)) (An (An (zr (iv (x2:Int))) (zr true)) (An (An (zr (bv (decide ((x2:Int) < (↑(f.pieces.length):Int))))) (zr true)) tv))))))))))))) (An (An (An (zr (OB.cells 71 (cFrm f))) (zr true)) tv) (An (zr true) (zr true))))) ?_
   refine zC ([(12,CallSpec.eq (c27c f x0) [false,false]),(14,CallSpec.eq (c27o f x0) [false]),(20,CallSpec.eq (s42 f (x0:Int)) [true,true])]) [1,14,2,3,4,15,6,7,63] [0] (Ak 2 (An (fun (y11:Option.isSome (Ja9 f x0)=true)=>(An (Ak 1 tv) tv)) (An (fun (y12:Option.isSome (Ja9 f x0)=true)=>(An (Ak 1 tv) tv)) (An (fun (y13:Option.isSome (Ja9 f x0)=true)=>(An (An (fun (y14:Option.isSome (Ja9 f x0)=true)=>y13) (An (fun (y15:Option.isSome (Ja9 f x0)=true)=>y13) tv)) (o34 hpre x0 hx0 y1 x2 hx2 y3 y13))) (An (fun (y16:Option.isSome (Ja9 f x0)=true)=>(An (Ak 1 tv) tv)) (An (fun (y17:Option.isSome (Ja9 f x0)=true)=>(An (An (fun (y18:Option.isSome (Ja9 f x0)=true)=>y17) tv) tv)) (An (fun (y19:Option.isSome (Ja9 f x0)=true)=>(An (Ak 1 tv) tv)) (An (fun (y20:Option.isSome (Ja9 f x0)=true)=>(An (An (fun (y21:Option.isSome (Ja9 f x0)=true)=>y20) tv) tv)) (An (fun (y22:Option.isSome (Ja9 f x0)=true)=>(An (An (fun (y23:Option.isSome (Ja9 f x0)=true)=>y22) (An (fun (y24:Option.isSome (Ja9 f x0)=true)=>y22) tv)) (o35 hpre x0 hx0 y1 x2 hx2 y3 y22))) (An (fun (y25:Option.isSome (Ja9 f x0)=true)=>(An (Ak 1 tv) tv)) (An (fun (y26:Option.isSome (Ja9 f x0)=true)=>(An (Ak 1 tv) tv)) (An (fun (y27:Option.isSome (Ja9 f x0)=true)=>(An (Ak 1 (An (fun (y28:Option.isSome (Ja9 f x0)=true)=>y27) (An (fun (y29:Option.isSome (Ja9 f x0)=true)=>y27) tv))) (An (An (An (zr 1) (An (o36 hpre x0 hx0 y1 x2 hx2 y3 y27) (fun (i30:Nat)=>(fun (y31:i30 < (outP f (x0:Int)).length)=>(o37 hpre x0 hx0 y1 x2 hx2 y3 y27 i30 y31))))) (An (An (zr 1) (An (zr (outL (Ja9 f x0)).length) (fun (i32:Nat)=>(fun (y33:i32 < (outL (Ja9 f x0)).length)=>(zr ([iv ((outL (Ja9 f x0)).getD i32 0)])))))) tv)) (An (t41 (outP f (x0:Int)) (outL (Ja9 f x0))) (An (An (o38 hpre x0 hx0 y1 x2 hx2 y3 y27) (o39 hpre x0 hx0 y1 x2 hx2 y3 y27)) (Ak 1 (fun (i34:Env)=>tv))))))) (An (fun (y35:Option.isSome (Ja9 f x0)=true)=>(An (An (fun (y36:Option.isSome (Ja9 f x0)=true)=>y35) (An (fun (y37:Option.isSome (Ja9 f x0)=true)=>y35) (An (fun (y38:Option.isSome (Ja9 f x0)=true)=>y35) tv))) tv)) (An (fun (y39:Option.isSome (Ja9 f x0)=true)=>(An (Ak 1 (An (fun (y40:Option.isSome (Ja9 f x0)=true)=>y39) tv)) (An (An (An (zr 1) (An (o40 hpre x0 hx0 y1 x2 hx2 y3 y39) (fun (i41:Nat)=>(fun (y42:i41 < List.length [Jau f (outP f (x0:Int)) - outN (Ja9 f x0),(↑((outP f (x0:Int)).length):Int) - (↑((outL (Ja9 f x0)).length):Int),cmpL (outP f (x0:Int)) (outL (Ja9 f x0))])=>(o41 hpre x0 hx0 y1 x2 hx2 y3 y39 i41 y42))))) tv) (An (t40 ([Jau f (outP f (x0:Int)) - outN (Ja9 f x0),(↑((outP f (x0:Int)).length):Int) - (↑((outL (Ja9 f x0)).length):Int),cmpL (outP f (x0:Int)) (outL (Ja9 f x0))])) (An (o42 hpre x0 hx0 y1 x2 hx2 y3 y39) (Ak 1 (fun (i43:Env)=>tv))))))) (An (fun (y44:Option.isSome (Ja9 f x0)=true)=>(An (An (fun (y45:Option.isSome (Ja9 f x0)=true)=>y44) (Ak 1 tv)) tv)) (An (An (fun (y46:Option.isSome (Ja9 f x0)=true)=>y46) (fun (y47:Option.isSome (Ja9 f x0)=false)=>tv)) (Ak 1 (An (fun (y48:(!bif Option.isSome (Ja9 f x0) then decide (0<=orI [Jau f (outP f (x0:Int)) - outN (Ja9 f x0),(↑((outP f (x0:Int)).length):Int) - (↑((outL (Ja9 f x0)).length):Int),cmpL (outP f (x0:Int)) (outL (Ja9 f x0))]) else false)=true)=>(An (Ak 1 tv) tv)) (An (fun (y49:(!bif Option.isSome (Ja9 f x0) then decide (0<=orI [Jau f (outP f (x0:Int)) - outN (Ja9 f x0),(↑((outP f (x0:Int)).length):Int) - (↑((outL (Ja9 f x0)).length):Int),cmpL (outP f (x0:Int)) (outL (Ja9 f x0))]) else false)=true)=>(An (Ak 1 tv) tv)) (An (fun (y50:(!bif Option.isSome (Ja9 f x0) then decide (0<=orI [Jau f (outP f (x0:Int)) - outN (Ja9 f x0),(↑((outP f (x0:Int)).length):Int) - (↑((outL (Ja9 f x0)).length):Int),cmpL (outP f (x0:Int)) (outL (Ja9 f x0))]) else false)=true)=>(An (Ak 1 (An (fun (y51:(!bif Option.isSome (Ja9 f x0) then decide (0<=orI [Jau f (outP f (x0:Int)) - outN (Ja9 f x0),(↑((outP f (x0:Int)).length):Int) - (↑((outL (Ja9 f x0)).length):Int),cmpL (outP f (x0:Int)) (outL (Ja9 f x0))]) else false)=true)=>y50) (An (fun (y52:(!bif Option.isSome (Ja9 f x0) then decide (0<=orI [Jau f (outP f (x0:Int)) - outN (Ja9 f x0),(↑((outP f (x0:Int)).length):Int) - (↑((outL (Ja9 f x0)).length):Int),cmpL (outP f (x0:Int)) (outL (Ja9 f x0))]) else false)=true)=>y50) tv))) (An (An (zr (AV.agg (cFrm f))) (An (zr (iv (x0:Int))) tv)) (An (t42 (f) ((x0:Int))) (An (An hpre (An (o43 hpre x0 hx0 y1 x2 hx2 y3 y50) (o44 hpre x0 hx0 y1 x2 hx2 y3 y50))) (Ak 1 (fun (i53:Env)=>tv))))))) (An (fun (y54:(!bif Option.isSome (Ja9 f x0) then decide (0<=orI [Jau f (outP f (x0:Int)) - outN (Ja9 f x0),(↑((outP f (x0:Int)).length):Int) - (↑((outL (Ja9 f x0)).length):Int),cmpL (outP f (x0:Int)) (outL (Ja9 f x0))]) else false)=true)=>(An (An (fun (y55:(!bif Option.isSome (Ja9 f x0) then decide (0<=orI [Jau f (outP f (x0:Int)) - outN (Ja9 f x0),(↑((outP f (x0:Int)).length):Int) - (↑((outL (Ja9 f x0)).length):Int),cmpL (outP f (x0:Int)) (outL (Ja9 f x0))]) else false)=true)=>y54) (Ak 1 tv)) tv)) (An (An (fun (y56:(bif Option.isSome (Ja9 f x0) then decide (0<=orI [Jau f (outP f (x0:Int)) - outN (Ja9 f x0),(↑((outP f (x0:Int)).length):Int) - (↑((outL (Ja9 f x0)).length):Int),cmpL (outP f (x0:Int)) (outL (Ja9 f x0))]) else false)=true)=>tv) (fun (y57:(bif Option.isSome (Ja9 f x0) then decide (0<=orI [Jau f (outP f (x0:Int)) - outN (Ja9 f x0),(↑((outP f (x0:Int)).length):Int) - (↑((outL (Ja9 f x0)).length):Int),cmpL (outP f (x0:Int)) (outL (Ja9 f x0))]) else false)=false)=>(o45 hpre x0 hx0 y1 x2 hx2 y3 y57))) tv)))))))))))))))))))))) ?_
   refine zI (bif bif Option.isSome (Ja9 f x0) then decide (0<=orI [Jau f (outP f (x0:Int)) - outN (Ja9 f x0),(↑((outP f (x0:Int)).length):Int) - (↑((outL (Ja9 f x0)).length):Int),cmpL (outP f (x0:Int)) (outL (Ja9 f x0))]) else false then true else !Option.isSome (Jb9 f (x0:Int))) (fun y58 => ?_) (fun y58 => ?_)
   ·refine Jaa ?_
    refine zR [1,14,2,3,4,15] [0] (An (o46 hpre x0 hx0 y1 x2 hx2 y3 y58) (Ak 1 tv)) ?_
    exact zn (zE hE [] [(0,.same 0)] [14] [0] (An (An (An (zr (some (Src.same 0))) (zr nilP)) (An (An (zr (iv (1 * 2 ^ f.pieces.length))) (zr true)) (An (An (zr 1) (An (o47 hpre x0 hx0 y1 x2 hx2 y3 y58) (fun (i59:Nat)=>(fun (y60:i59 < (outL (Ja9 f (x0 + 1))).length)=>(o48 hpre x0 hx0 y1 x2 hx2 y3 y58 i59 y60))))) (An (An (ci (o49 hpre x0 hx0 y1 x2 hx2 y3 y58)) (zr nilN)) (An (An (cb (o50 hpre x0 hx0 y1 x2 hx2 y3 y58)) (zr nilN)) (An (An (ci (o51 hpre x0 hx0 y1 x2 hx2 y3 y58)) (zr nilN)) tv)))))) (An (An (An (zr (OB.cells 71 (cFrm f))) (zr true)) tv) (An (zr true) (zr true))))) (o52 hpre x0 hx0 y1 x2 hx2 y3 y58) (o53 hpre x0 hx0 y1 x2 hx2 y3 y58)
   ·refine Ja3 ?_
    refine zR [1,14,2,3,4,15] [0] (Ak 5 tv) ?_
    refine zR [1,14,2,3,4,15] [0] (An (o54 hpre x0 hx0 y1 x2 hx2 y3 y58) (Ak 1 tv)) ?_
    exact zn (zE hE [] [(0,.same 0)] [14] [0] (An (An (An (zr (some (Src.same 0))) (zr nilP)) (An (An (zr (iv (1 * 2 ^ f.pieces.length))) (zr true)) (An (An (zr 1) (An (o55 hpre x0 hx0 y1 x2 hx2 y3 y58) (fun (i61:Nat)=>(fun (y62:i61 < (outL (Ja9 f (x0 + 1))).length)=>(o56 hpre x0 hx0 y1 x2 hx2 y3 y58 i61 y62))))) (An (An (ci (o57 hpre x0 hx0 y1 x2 hx2 y3 y58)) (zr nilN)) (An (An (cb (o58 hpre x0 hx0 y1 x2 hx2 y3 y58)) (zr nilN)) (An (An (ci (o59 hpre x0 hx0 y1 x2 hx2 y3 y58)) (zr nilN)) tv)))))) (An (An (An (zr (OB.cells 71 (cFrm f))) (zr true)) tv) (An (zr true) (zr true))))) (o60 hpre x0 hx0 y1 x2 hx2 y3 y58) (o61 hpre x0 hx0 y1 x2 hx2 y3 y58)
 ·refine Jaa ?_
  refine Ja0 ?_
  refine zR [2,3,4] [] (Ak 6 tv) ?_
  refine Ja5 ?_
  exact zT [] (An (Ak 3 tv) (An (An (An (zr 1) (An (o62 hpre x0 hx0 y1) (fun (i63:Nat)=>(fun (y64:i63 < (outL (refP f)).length)=>(o63 hpre x0 hx0 y1 i63 y64))))) (An (An (ci (o64 hpre x0 hx0 y1)) (zr nilN)) (An (An (cb (o65 hpre x0 hx0 y1)) (zr nilN)) tv))) (An (zr true) (An (zr true) (zr true)))))
theorem t27 (f:Frm):Ja4 Tryz.prog 27 (s27 f):=by
 apply w27
 all_goals (try delta q3a q3b q3c q3d q3e q3f q3g q3h q3i q3j q3k q3l q3m)
 all_goals (first | ((repeat intro _) <;> (try simp only [Bool.cond_true_left,Bool.cond_false_right,Bool.not_not,Bool.not_eq_true',Bool.not_eq_false',Bool.or_eq_true,Bool.or_eq_false_iff,Bool.and_eq_true,decide_eq_true_eq,decide_eq_false_iff_not,inI,big,Jba,Jai,Jbn] at *) <;> first | (exact rfl) | omega | (exact ⟨Nat.zero_le _,fun j hj=>absurd hj (Nat.not_lt_zero j)⟩) | (simp_all; done) | (simp_all; omega)) | skip)
 all_goals (intro hs; have h6:=pow6 hs; have hpl:=hs.pieces)
 case o1=>omega
 case o2=>rw [Jk5]; have h0:=Int.natCast_nonneg (2 ^ f.pieces.length); exact ⟨by omega,by omega⟩
 all_goals (intro n hn hl; rw [Jk5] at hl; simp only [decide_eq_true_eq,decide_eq_false_iff_not] at hl)
 case o62 | o63 | o64 | o65 =>
  have e:n=2 ^ f.pieces.length:=by omega
  subst e
  first | rfl | (intro i _; rfl)
 all_goals (have hrn:=JpY hs n)
 all_goals (intro k hk hkl; simp only [decide_eq_true_eq,decide_eq_false_iff_not] at hkl)
 all_goals (have hol:=Jmw (n:Int) k; have hpi:=Jk1 hs (n:Int) k hk)
 case o15=>omega
 case o16=>exact Int.ediv_nonneg (by omega) (Int.le_of_lt (Int.pow_pos (by omega)))
 case o17=>exact JjW (by omega) (by omega)
 all_goals (intro hb)
 case o18=>omega
 case o19=>have:=hs.piece k (by omega); exact ⟨by omega,by omega⟩
 case o20 | o27=>exact ⟨by omega,by omega⟩
 case o21=>have hb':bitP (n:Int) (k:Int)=true:=hb; rw [Jmv hb',Jgr]
 case o23=>have hb':bitP (n:Int) (k:Int)=true:=hb; rw [Jmv hb',List.length_append]; rfl
 case o24 =>
  have hb':bitP (n:Int) (k:Int)=true:=hb
  intro i hi
  rw [Jmv hb']
  exact Jc4 (JaN (n:Int) k) _ 0 (fun x=>[iv x]) rfl (fun k _=>rfl) rfl hi
 case o28 | o30=>have hb':bitP (n:Int) (k:Int)=false:=hb; rw [Jon hb']
 case o31=>have hb':bitP (n:Int) (k:Int)=false:=hb; intro i _; rw [Jon hb']
 all_goals (have ek:k=f.pieces.length:=by omega)
 all_goals subst ek
 case o34=>exact ⟨by omega,by omega⟩
 case o35=>exact ⟨by omega,by omega⟩
 case o36=>rfl
 case o37=>intro i _; rfl
 case o38=>show (JaN _ _).length<=_; omega
 case o39=>omega
 case o41 =>
  intro i hi
  match i,hi with
  | 0,_=>rfl
  | 1,_=>rfl
  | 2,_=>rfl
  | i + 3,hi=>exact absurd hi (by simp)
 case o44=>intros; omega
 case o46 | o54=>exact ⟨by omega,by omega⟩
 case o52 | o60 | o53 | o61=>omega
 case o47 | o49 | o50=>rw [Jmy hb]
 case o48=>intro i _; rw [Jmy hb]
 case o55 | o57 | o58=>rw [Jmz hb]; rfl
 case o56=>intro i _; rw [Jmz hb]; rfl
abbrev q3n (f:Frm) (Pq:Prop):Prop:=Jai f->(!decide (Jcl f true=0))=false->Pq
abbrev q3o (f:Frm) (Pq:Prop):Prop:=q3n f ((!Option.isSome (refP (Jaz f true)))=false->Pq)
theorem w10 (f:Frm)
 (o0:Jai f->(!decide (Jcl f true=0))=true->(Jaj f).length=0)
 (o1:Jai f->(!decide (Jcl f true=0))=true->Jcl f true=Ja8 f)
 (o2:q3n f (Sound (Jaz f true)))
 (o3:q3n f ((!Option.isSome (refP (Jaz f true)))=true->(Jaj f).length=0))
 (o4:q3n f ((!Option.isSome (refP (Jaz f true)))=true->3=Ja8 f))
 (o5:q3o f ((outL (refP (Jaz f true))).length=(Jaj f).length))
 (o6:q3o f (∀ (i4:Nat),i4 < (Jaj f).length -> [iv ((outL (refP (Jaz f true))).getD i4 0)] = [iv ((Jaj f).getD i4 0)]))
 (o7:q3o f (0=Ja8 f)) :
  Ja4 Tryz.prog 10 (s10 f):=by
 refine Ja7 Tryz.func10 rfl Tryz.call10 Jaw _ rfl rfl rfl rfl (Nat.le_of_ble_eq_true (by kernel_rfl)) (fun _ _ _ _ h=>h) ?_
 intro hpre C hC _ hE
 obtain ⟨P,w0,E0,av,hA,ro,df⟩:=C
 obtain ⟨rfl,rfl,rfl⟩:=hC
 refine Ja0 ?_
 refine zR [1] [0] (Ak 3 tv) ?_
 refine Ja0 ?_
 refine zC ([(1,CallSpec.eq (s26 f true) [true,true])]) [4,5] [64] (Ak 1 (An (An (An (zr (AV.agg (cFrm f))) (An (zr (bv true)) tv)) (An (t26 (f) (true)) (An hpre (Ak 1 (fun (i0:Env)=>tv))))) (Ak 6 tv))) ?_
 refine Ja0 ?_
 refine Ja0 ?_
 refine zR [4,5,15] [64] (Ak 2 tv) ?_
 refine zI (!decide (Jcl f true=0)) (fun y1 => ?_) (fun y1 => ?_)
 ·refine Ja0 ?_
  refine zR [2,3] [] (Ak 3 tv) ?_
  refine Ja5 ?_
  exact zT [] (An (Ak 2 tv) (An (An (o0 hpre y1) (An (An (ci (o1 hpre y1)) (zr nilN)) tv)) (An (zr true) (An (zr true) (zr true)))))
 ·refine Ja3 ?_
  refine Ja0 ?_
  refine zC ([(1,CallSpec.eq (s27 (Jaz f true)) [true])]) [6,8] [] (Ak 1 (An (An (An (zr (AV.agg (cFrm (Jaz f true)))) tv) (An (t27 (Jaz f true)) (An (o2 hpre y1) (Ak 1 (fun (i2:Env)=>tv))))) (Ak 7 tv))) ?_
  refine Ja0 ?_
  refine Ja0 ?_
  refine zR [6,24] [] (Ak 2 tv) ?_
  refine zI (!Option.isSome (refP (Jaz f true))) (fun y3 => ?_) (fun y3 => ?_)
  ·refine Ja0 ?_
   refine zR [2,3] [] (Ak 2 tv) ?_
   refine Ja5 ?_
   exact zT [] (An (Ak 2 tv) (An (An (o3 hpre y1 y3) (An (An (ci (o4 hpre y1 y3)) (zr nilN)) tv)) (An (zr true) (An (zr true) (zr true)))))
  ·refine Ja3 ?_
   refine Ja0 ?_
   refine zR [2,3] [] (Ak 3 tv) ?_
   refine Ja5 ?_
   exact zT [] (An (Ak 2 tv) (An (An (An (zr 1) (An (o5 hpre y1 y3) (fun (i4:Nat)=>(fun (y5:i4 < (Jaj f).length)=>(o6 hpre y1 y3 i4 y5))))) (An (An (ci (o7 hpre y1 y3)) (zr nilN)) tv)) (An (zr true) (An (zr true) (zr true)))))
theorem t10 (f:Frm):Ja4 Tryz.prog 10 (s10 f):=by
 apply w10
 all_goals (try delta q3n q3o)
 all_goals (first | ((repeat intro _) <;> (try simp only [Bool.cond_true_left,Bool.cond_false_right,Bool.not_not,Bool.not_eq_true',Bool.not_eq_false',Bool.or_eq_true,Bool.or_eq_false_iff,Bool.and_eq_true,decide_eq_true_eq,decide_eq_false_iff_not,inI,big,Jba,Jai,Jbn] at *) <;> first | (exact rfl) | omega | (exact ⟨Nat.zero_le _,fun j hj=>absurd hj (Nat.not_lt_zero j)⟩) | (simp_all; done) | (simp_all; omega)) | skip)
 all_goals (intro hp h)
 case o0 | o1=>have e:=JjZ h; rw [Bool.and_true] at e; simp [Jaj,Ja8,Jcl,e]
 all_goals (obtain ⟨e1,_,e2,e3,e4⟩:=Jms h)
 case o2=>rw [e2]; exact e3
 all_goals (intro h2; rw [e2] at h2)
 case o3 | o4=>have:=Jk3 h2; simp [Jaj,Ja8,e1,this,outL]
 case o5=>rw [e2]; simp [Jaj,e1]
 case o6=>intro i _; rw [e2]; simp [Jaj,e1]
 case o7=>simp [Ja8,e1,Jk4 h2]
abbrev q3p (f:Frm) (Pq:Prop):Prop:=Jai f->(!decide (Jcl f true=0))=false->Pq
theorem w11 (f:Frm)
 (o0:Jai f->(!decide (Jcl f true=0))=true->0=JbW f)
 (o1:Jai f->(!decide (Jcl f true=0))=true->Jcl f true=Ja8 f)
 (o2:q3p f (Sound (Jaz f true)))
 (o3:q3p f ((!Option.isSome (refP (Jaz f true)))=true->0=JbW f))
 (o4:q3p f ((!Option.isSome (refP (Jaz f true)))=true->3=Ja8 f))
 (o5:q3p f ((!Option.isSome (refP (Jaz f true)))=false->outN (refP (Jaz f true))=JbW f))
 (o6:q3p f ((!Option.isSome (refP (Jaz f true)))=false->0=Ja8 f)) :
  Ja4 Tryz.prog 11 (s11 f):=by
 refine Ja7 Tryz.func11 rfl Tryz.call11 Jaw _ rfl rfl rfl rfl (Nat.le_of_ble_eq_true (by kernel_rfl)) (fun _ _ _ _ h=>h) ?_
 intro hpre C hC _ hE
 obtain ⟨P,w0,E0,av,hA,ro,df⟩:=C
 obtain ⟨rfl,rfl,rfl⟩:=hC
 refine Ja0 ?_
 refine zR [1] [0] (Ak 3 tv) ?_
 refine Ja0 ?_
 refine zC ([(1,CallSpec.eq (s26 f true) [true,true])]) [4,5] [64] (Ak 1 (An (An (An (zr (AV.agg (cFrm f))) (An (zr (bv true)) tv)) (An (t26 (f) (true)) (An hpre (Ak 1 (fun (i0:Env)=>tv))))) (Ak 6 tv))) ?_
 refine Ja0 ?_
 refine Ja0 ?_
 refine zR [4,5,15] [64] (Ak 2 tv) ?_
 refine zI (!decide (Jcl f true=0)) (fun y1 => ?_) (fun y1 => ?_)
 ·refine Ja0 ?_
  refine zR [2,3] [] (Ak 3 tv) ?_
  refine Ja5 ?_
  exact zT [] (An (Ak 2 tv) (An (An (An (ci (o0 hpre y1)) (zr nilN)) (An (An (ci (o1 hpre y1)) (zr nilN)) tv)) (An (zr true) (An (zr true) (zr true)))))
 ·refine Ja3 ?_
  refine Ja0 ?_
  refine zC ([(1,CallSpec.eq (s27 (Jaz f true)) [true])]) [7,8] [] (Ak 1 (An (An (An (zr (AV.agg (cFrm (Jaz f true)))) tv) (An (t27 (Jaz f true)) (An (o2 hpre y1) (Ak 1 (fun (i2:Env)=>tv))))) (Ak 7 tv))) ?_
  refine Ja0 ?_
  refine Ja0 ?_
  refine zR [7,24] [] (Ak 2 tv) ?_
  refine zI (!Option.isSome (refP (Jaz f true))) (fun y3 => ?_) (fun y3 => ?_)
  ·refine Ja0 ?_
   refine zR [2,3] [] (Ak 2 tv) ?_
   refine Ja5 ?_
   exact zT [] (An (Ak 2 tv) (An (An (An (ci (o3 hpre y1 y3)) (zr nilN)) (An (An (ci (o4 hpre y1 y3)) (zr nilN)) tv)) (An (zr true) (An (zr true) (zr true)))))
  ·refine Ja3 ?_
   refine Ja0 ?_
   refine zR [2,3] [] (Ak 3 tv) ?_
   refine Ja5 ?_
   exact zT [] (An (Ak 2 tv) (An (An (An (ci (o5 hpre y1 y3)) (zr nilN)) (An (An (ci (o6 hpre y1 y3)) (zr nilN)) tv)) (An (zr true) (An (zr true) (zr true)))))
theorem t11 (f:Frm):Ja4 Tryz.prog 11 (s11 f):=by
 apply w11
 all_goals (try delta q3p)
 all_goals (first | ((repeat intro _) <;> (try simp only [Bool.cond_true_left,Bool.cond_false_right,Bool.not_not,Bool.not_eq_true',Bool.not_eq_false',Bool.or_eq_true,Bool.or_eq_false_iff,Bool.and_eq_true,decide_eq_true_eq,decide_eq_false_iff_not,inI,big,Jba,Jai,Jbn] at *) <;> first | (exact rfl) | omega | (exact ⟨Nat.zero_le _,fun j hj=>absurd hj (Nat.not_lt_zero j)⟩) | (simp_all; done) | (simp_all; omega)) | skip)
 all_goals (intro hp h)
 case o0 | o1=>have e:=JjZ h; rw [Bool.and_true] at e; simp [JbW,Ja8,Jcl,e]
 all_goals (obtain ⟨e1,_,e2,e3,e4⟩:=Jms h)
 case o2=>rw [e2]; exact e3
 all_goals (intro h2; rw [e2] at h2)
 case o3 | o4=>have:=Jk3 h2; simp [JbW,Ja8,e1,this,outN]
 case o5=>rw [e2]; simp [JbW,e1]
 case o6=>simp [Ja8,e1,Jk4 h2]
end Go.Ab
namespace Go.En
open Go Go.Ab Go.Sh
end Go.En
namespace Go.Ab
open Go Go.RowKit Go.Proofs Go.Sh Go.En
end Go.Ab
namespace Go.Ab
open Go Go.RowKit Go.Proofs Go.Sh Go.En
end Go.Ab
namespace Go.Sh
open Go.Ab
end Go.Sh
namespace Go.Ab
open Go Go.RowKit Go.Proofs Go.Sh Go.En
end Go.Ab
namespace Go.Sh
open Go.Ab
variable {f:Frm}
end Go.Sh
namespace Go.Ab
open Go Go.RowKit Go.Proofs Go.Sh Go.En
end Go.Ab
namespace Go.Sh
open Go.Ab
def JbG:List Int->List (List Int)
 | []=>[[]]
 | a :: ws=>(List.range (a.toNat + 1)).flatMap fun (n:Nat)=>(JbG ws).map (((n:Nat):Int) :: ·)
theorem JmA {α:Type} (g:Nat->α) (P:Nat):∀ m,(List.range (m * P)).map g=(List.range m).flatMap fun n=>(List.range P).map fun r=>g (n * P + r):=by
 intro m
 induction m with
 | zero=>simp
 | succ m ih=>rw [Nat.succ_mul,List.range_add,List.map_append,ih,List.range_succ,List.flatMap_append,List.map_map]; simp
theorem Je5:∀ left:List Int,JbG left=(List.range (Jak left)).map (setN left):=by
 intro left
 induction left with
 | nil=>rfl
 | cons a ws ih =>
  show _=(List.range ((a.toNat + 1) * Jak ws)).map _
  rw [JmA,JbG,ih]
  congr 1
  funext n
  rw [List.map_map]
  refine List.map_congr_left fun r hr => ?_
  have h:=List.mem_range.1 hr
  show _=((((n * Jak ws + r) / Jak ws:Nat):Int) :: setN ws ((n * Jak ws + r) % Jak ws))
  rw [Nat.mul_comm,Nat.mul_add_div (JcD ws),Nat.div_eq_of_lt h,Nat.mul_add_mod,Nat.mod_eq_of_lt h]; rfl
theorem Jjl:∀ a:List Int,Jbz a a=false:=by
 intro a
 induction a with
 | nil=>rfl
 | cons x xs ih=>show (if _=_ then _ else _)=false; rw [if_pos rfl]; exact ih
def Je6:List (List Int)->Int
 | []=>0
 | s :: l=>sumS s + Je6 l
def Jjm (f:Frm):List Span->List Int->List (List (List Int))
 | [],_=>[[]]
 | r :: rs,left=>(JbG left).flatMap fun s=>if Ja1 (JaA f s) r.lo r.hi then (Jjm f rs (Jaq left s)).map (s :: ·) else []
theorem Jhf {α:Type} {P:List α->Prop} (h0:P []) (h1:∀ l x,P l->P (l ++ [x])) (l:List α):P l:=by
 have h:∀ m:List α,P m.reverse:=by
  intro m
  induction m with
  | nil=>exact h0
  | cons x m ih=>rw [List.reverse_cons]; exact h1 _ _ ih
 have:=h l.reverse
 rwa [List.reverse_reverse] at this
def fmS (b:Lay) (l:List (List Int)):Lay:=if Jcw (Je6 l) b then some (l,Je6 l) else b
def fmL (ls:List (List (List Int))):Lay:=ls.foldl fmS none
theorem Jfy (ls:List (List (List Int))) (l:List (List Int)):fmL (ls ++ [l])=fmS (fmL ls) l:=by unfold fmL; rw [List.foldl_append]; rfl
def orL (a b:Lay):Lay:=match b with | none=>a | some x=>if Jcw x.2 a then some x else a
theorem JmB (a b:List (List (List Int))):fmL (a ++ b)=orL (fmL a) (fmL b):=by
 induction b using Jhf with
 | h0=>rw [List.append_nil]; rfl
 | h1 b x ih =>
  rw [← List.append_assoc,Jfy,Jfy,ih]
  generalize fmL a=p
  generalize fmL b=q
  cases q with
  | none=>rfl
  | some q =>
   cases p with
   | none =>
    by_cases h:Je6 x < q.2 <;> simp [orL,fmS,Jcw,h]
   | some p =>
    by_cases h1:q.2 < p.2
    ·by_cases h2:Je6 x < q.2
     ·have h3:Je6 x < p.2:=by omega
      simp [orL,fmS,Jcw,h1,h2,h3]
     ·simp [orL,fmS,Jcw,h1,h2]
    ·by_cases h2:Je6 x < p.2
     ·have h3:Je6 x < q.2:=by omega
      simp [orL,fmS,Jcw,h1,h2,h3]
     ·by_cases h3:Je6 x < q.2 <;> simp [orL,fmS,Jcw,h1,h2,h3]
theorem JpZ (s:List Int) (ls:List (List (List Int))):fmL (ls.map (s :: ·))=(fmL ls).map fun x=>(s :: x.1,sumS s + x.2):=by
 induction ls using Jhf with
 | h0=>rfl
 | h1 ls x ih =>
  rw [List.map_append,List.map_cons,List.map_nil,Jfy,Jfy,ih]
  cases fmL ls with
  | none=>rfl
  | some y =>
   by_cases h:Je6 x < y.2
   ·have h2:sumS s + Je6 x < sumS s + y.2:=by omega
    simp [fmS,Jcw,Je6,h,h2]
   ·have h2:¬ sumS s + Je6 x < sumS s + y.2:=by omega
    simp [fmS,Jcw,Je6,h,h2]
theorem Jq0 (f:Frm):∀ (rooms:List Span) (left:List Int),Jav f rooms left=fmL (Jjm f rooms left):=by
 intro rooms
 induction rooms with
 | nil=>intro left; rfl
 | cons r rs ih =>
  intro left
  rw [Jav,Jjm,Je5]
  generalize Jak left=n
  induction n with
  | zero=>rfl
  | succ n ihn =>
   rw [List.range_succ,List.foldl_append,ihn,List.map_append,List.flatMap_append,JmB]
   generalize fmL _=b
   simp only [List.foldl_cons,List.foldl_nil,List.map_cons,List.map_nil,List.flatMap_cons,List.flatMap_nil,List.append_nil]
   unfold Jfu
   split
   ·rw [ih,JpZ]
    cases fmL (Jjm f rs (Jaq left (setN left n))) with
    | none=>rfl
    | some x=>rfl
   ·rfl
theorem Jq1:∀ {ls:List (List (List Int))},fmL ls=none->ls = []:=by
 intro ls
 induction ls using Jhf with
 | h0=>intro _; rfl
 | h1 ls z _ =>
  intro h
  rw [Jfy] at h
  cases e2:fmL ls with
  | none=>rw [e2] at h; cases h
  | some w=>rw [e2] at h; simp only [fmS] at h; split at h <;> cases h
end Go.Sh
namespace Go.Sh
open Go.Ab
theorem JmC {f:Frm} {w:Int} {n i:Nat} (h:i < n):(JaH f w n).getD i ⟨0,0⟩=Jen f (Jax f (delW (col f i) (bitP w))):=by
 rw [Jaf _ _ (by rw [Jcf]; exact h)]; unfold JaH; rw [List.getElem_map,List.getElem_range]
def Jq2 (f:Frm) (s:Span) (n:Int):Prop:=f.length - f.slack<=s.lo + n/\s.hi + n<=f.length
theorem Jjn {f:Frm} {s:Span} {n:Int} (h:0<=n):Ja1 n (Jen f s).lo (Jen f s).hi=true ↔ Jq2 f s n:=by
 rw [JaB]; unfold Jen Jq2; simp only; omega
theorem Jjo {f g:Frm} (h:f.strips=g.strips):∀ (rooms:List Span) (left:List Int),Jav f rooms left=Jav g rooms left:=by
 have hp:∀ s,JaA f s=JaA g s:=by intro s; unfold JaA ptTo stp; rw [h]
 intro rooms
 induction rooms with
 | nil=>intro left; rfl
 | cons r rs ih =>
  intro left
  have:Jav f rs=Jav g rs:=funext ih
  unfold Jav
  rw [this]
  congr 1
  funext b i
  unfold Jfu
  rw [hp]
end Go.Sh
namespace Go.Sh
open Go.Ab
def RisN (n:Nat) (l:List Int):Prop:=l.Pairwise (· < ·) /\ ∀ x,x ∈ l->0<=x/\x < n
theorem JmD {w:Int} {n:Nat} {p:Int}:p ∈ JaN w n ↔ (0<=p/\p < n)/\bitP w p=true:=by
 unfold JaN
 rw [List.mem_filterMap]
 constructor
 ·rintro ⟨i,hi,h⟩
  have hi:=List.mem_range.1 hi
  split at h
  ·cases h; rename_i hb; exact ⟨by omega,hb⟩
  ·cases h
 ·rintro ⟨h1,h2⟩
  have e:((p.toNat:Nat):Int)=p:=by omega
  exact ⟨p.toNat,List.mem_range.2 (by omega),by rw [e,if_pos h2]⟩
theorem Jq3 (w:Int) (n:Nat):RisN n (JaN w n):=by
 refine ⟨?_,fun x hx=>(JmD.1 hx).1⟩
 unfold JaN
 rw [List.pairwise_filterMap]
 refine List.pairwise_lt_range.imp @fun a b h x hx y hy => ?_
 split at hx
 ·split at hy
  ·cases hx; cases hy; omega
  ·cases hy
 ·cases hx
theorem Joo {w n i:Nat} (h:i < n):bitP ((w + 2 ^ n:Nat):Int) (i:Int)=bitP (w:Int) (i:Int):=by
 unfold bitP
 have e:∀ v:Nat,(v:Int) / 2 ^ ((i:Nat):Int).toNat % 2=((v / 2 ^ i % 2:Nat):Int):=by
  intro v
  rw [Int.toNat_natCast]; norm_cast
 rw [e,e]
 have:(w + 2 ^ n) / 2 ^ i % 2=w / 2 ^ i % 2:=by
  rw [show n=i + 1 + (n - i - 1) by omega,Nat.pow_add,Nat.pow_succ,Nat.mul_assoc,Nat.add_mul_div_left _ _ (Nat.two_pow_pos i),Nat.add_mul_mod_self_left]
 rw [this]
theorem Jq4 {w n:Nat} (h:w < 2 ^ n):bitP ((w + 2 ^ n:Nat):Int) (n:Int)=true:=by
 unfold bitP
 rw [Int.toNat_natCast]
 have:(w + 2 ^ n) / 2 ^ n % 2=1:=by
  rw [Nat.add_div_right _ (Nat.two_pow_pos n),Nat.div_eq_of_lt h]
 have e:((w + 2 ^ n:Nat):Int) / 2 ^ n % 2=(((w + 2 ^ n) / 2 ^ n % 2:Nat):Int):=by norm_cast
 rw [e,this]; rfl
theorem Jop {w n:Nat} (h:w < 2 ^ n):bitP (w:Int) (n:Int)=false:=by
 unfold bitP
 rw [Int.toNat_natCast]
 have e:(w:Int) / 2 ^ n % 2=((w / 2 ^ n % 2:Nat):Int):=by norm_cast
 rw [e,Nat.div_eq_of_lt h]; rfl
theorem JkU {α β:Type} {f g:α->Option β}:∀ {l:List α},(∀ x,x ∈ l->f x=g x)->l.filterMap f=l.filterMap g:=by
 intro l
 induction l with
 | nil=>intro _; rfl
 | cons x l ih =>
  intro h
  rw [List.filterMap_cons,List.filterMap_cons,h x (by simp),ih (fun y hy=>h y (by simp [hy]))]
theorem Jq5:∀ {n:Nat} {l:List Int},RisN n l -> ∃ w:Nat,w < 2 ^ n/\JaN (w:Int) n=l:=by
 intro n
 induction n with
 | zero =>
  intro l h
  have:l = []:=by
   cases l with
   | nil=>rfl
   | cons x l=>have:=h.2 x (by simp); omega
  exact ⟨0,Nat.one_pos,by rw [this]; rfl⟩
 | succ n ih =>
  intro l h
  by_cases hn:(n:Int) ∈ l
  · -- the last one is n
   obtain ⟨a,b,rfl⟩:=List.append_of_mem hn
   have hp:=h.1
   rw [List.pairwise_append] at hp
   have hb:b = []:=by
    cases b with
    | nil=>rfl
    | cons y b =>
     have h1:=(List.pairwise_cons.1 hp.2.1).1 y (by simp)
     have h2:=(h.2 y (by simp)).2
     omega
   subst hb
   obtain ⟨w,hw,e⟩:=ih (l:=a) ⟨hp.1,fun x hx=>by
    have h1:=(h.2 x (by simp [hx])).1
    have h2:=hp.2.2 x hx n (by simp)
    omega⟩
   refine ⟨w + 2 ^ n,by rw [Nat.pow_succ]; omega,?_⟩
   rw [Jmv (Jq4 hw),← e]
   congr 1
   unfold JaN
   refine JkU fun i hi => ?_
   have:=List.mem_range.1 hi
   rw [Joo this]
  ·obtain ⟨w,hw,e⟩:=ih (l:=l) ⟨h.1,fun x hx=>by
    have h1:=h.2 x hx
    have:x ≠ n:=fun e=>hn (e ▸ hx)
    omega⟩
   exact ⟨w,by rw [Nat.pow_succ]; omega,by rw [Jon (Jop hw),e]⟩
def Jah (f:Frm) (out:List Int):Frm:={ f with columns:=f.columns.map fun c=>c.filter fun p => !isIn out p }
theorem Joq {l:List Int} {p:Int}:isIn l p=true ↔ p ∈ l:=by
 unfold isIn
 rw [List.any_eq_true]
 constructor
 ·rintro ⟨x,hx,h⟩; rw [of_decide_eq_true h] at hx; exact hx
 ·intro h; exact ⟨p,h,by simp⟩
theorem JdF (f:Frm) (out:List Int) (c:Nat):col (Jah f out) c=(col f c).filter fun p => !isIn out p:=by
 unfold col Jah
 simp only [List.getD_eq_getElem?_getD,List.getElem?_map]
 cases f.columns[c]? <;> rfl
theorem JcQ {f:Frm} (hs:Sound f) (out:List Int):Sound (Jah f out):=by
 have hg:∀ i,Jbn f (col (Jah f out) i):=fun i=>by
  rw [JdF]
  exact Jic (Nat.le_trans (List.length_filter_le _ _) (hs.colLen i)) (fun w hw=>Je3 (Jc5 hs i) w (List.mem_filter.1 hw).1)
 exact ⟨hs.len,hs.slack,hs.strips,hs.pieces,by show (f.columns.map _).length<=3; rw [List.length_map]; exact hs.columns,hs.strip,hs.piece,fun i=>(hg i).1,fun i k hk=>(hg i).2 k hk⟩
theorem Jor (p:Int):bitP 0 p=false:=by
 unfold bitP; rw [Int.zero_ediv]; rfl
theorem Jk6 (l:List Int):delW l (bitP 0)=l:=by
 unfold delW; rw [List.filter_eq_self]; intro p _; rw [Jor]; rfl
theorem Jhg {f:Frm} (hs:Sound f) (w:Int):Jb9 f w=Jb9 (Jah f (outP f w)) 0:=by
 unfold Jb9
 rw [Jjo (f:=f) (g:=Jah f (outP f w)) rfl]
 have hl:(Jah f (outP f w)).columns.length=f.columns.length:=by show (f.columns.map _).length=_; rw [List.length_map]
 have e:JaH f w f.columns.length=JaH (Jah f (outP f w)) 0 (Jah f (outP f w)).columns.length:=by
  rw [hl]
  unfold JaH
  refine List.map_congr_left fun c _ => ?_
  rw [Jk6,JdF]
  have:(col f c).filter (fun p => !isIn (outP f w) p)=delW (col f c) (bitP w):=by
   unfold delW
   refine List.filter_congr fun p hp => ?_
   have h1:=Je3 (Jc5 hs c) p hp
   have:isIn (outP f w) p=bitP w p:=by
    rw [Bool.eq_iff_iff,Joq]; unfold outP; rw [JmD]
    exact ⟨fun h=>h.2,fun h=>⟨h1,h⟩⟩
   rw [this]
  rw [this]
  rfl
 rw [e]; rfl
def canP (f:Frm) (out:List Int):Bool:=(Jb9 (Jah f out) 0).isSome
theorem Jk7 {f:Frm} (hs:Sound f) (w:Int):(Jb9 f w).isSome=canP f (outP f w):=by unfold canP; rw [Jhg hs]
def LtK (f:Frm) (a b:List Int):Prop:=Jau f a < Jau f b ∨ (Jau f a=Jau f b/\(a.length < b.length ∨ (a.length=b.length/\Jbz a b=true)))
theorem Jhh:∀ {a b c:List Int},Jbz a b=true->Jbz b c=true->Jbz a c=true:=by
 intro a
 induction a with
 | nil=>intro b c h; cases h
 | cons x xs ih =>
  intro b c h1 h2
  match b,c,h1,h2 with
  | y :: ys,z :: zs,h1,h2 =>
   simp only [Jbz] at h1 h2 ⊢
   by_cases e:x=y
   ·subst e
    rw [if_pos rfl] at h1
    by_cases e2:x=z
    ·subst e2; rw [if_pos rfl] at h2 ⊢; exact ih h1 h2
    ·rw [if_neg e2] at h2 ⊢; exact h2
   ·rw [if_neg e] at h1
    by_cases e2:y=z
    ·subst e2; rw [if_neg e]; exact h1
    ·rw [if_neg e2] at h2
     simp only [decide_eq_true_eq] at h1 h2
     rw [if_neg (by omega)]; exact decide_eq_true (by omega)
theorem JmE {f:Frm} {a b c:List Int} (h1:LtK f a b) (h2:LtK f b c):LtK f a c:=by
 unfold LtK at *
 rcases h1 with h1 | ⟨h1,h1'⟩
 ·rcases h2 with h2 | ⟨h2,_⟩ <;> exact .inl (by omega)
 ·rcases h2 with h2 | ⟨h2,h2'⟩
  ·exact .inl (by omega)
  ·refine .inr ⟨by omega,?_⟩
   rcases h1' with h1' | ⟨h1',k1⟩
   ·rcases h2' with h2' | ⟨h2',_⟩ <;> exact .inl (by omega)
   ·rcases h2' with h2' | ⟨h2',k2⟩
    ·exact .inl (by omega)
    ·exact .inr ⟨by omega,Jhh k1 k2⟩
theorem JmF {f:Frm} {a:List Int}:¬ LtK f a a:=by
 rintro (h | ⟨_,h | ⟨_,h⟩⟩)
 ·omega
 ·omega
 ·rw [Jjl] at h; cases h
theorem JkV:∀ {a b:List Int},a.length=b.length->(cmpL a b < 0 ↔ Jbz a b=true):=by
 intro a
 induction a with
 | nil =>
  intro b h
  have:b = []:=List.eq_nil_of_length_eq_zero h.symm
  subst this
  exact ⟨fun h=>absurd h (by decide),fun h=>by cases h⟩
 | cons x xs ih =>
  intro b h
  match b,h with
  | y :: ys,h =>
   simp only [cmpL,Jbz]
   by_cases e:x=y
   ·subst e
    rw [if_pos (Jig x),if_pos rfl]
    exact ih (Nat.succ.inj h)
   ·rw [if_neg (fun h=>e (Jif h)),if_neg e]
    unfold cmpW
    by_cases h1:x < y
    ·rw [if_pos h1]; exact ⟨fun _=>decide_eq_true h1,fun _=>by omega⟩
    ·rw [if_neg h1,if_pos (by omega)]
     exact ⟨fun h=>absurd h (by omega),fun h=>absurd (of_decide_eq_true h) h1⟩
theorem orI3 (a b c:Int):orI [a,b,c]=if a=0 then (if b=0 then c else b) else a:=by
 unfold orI
 by_cases h1:a=0
 ·subst h1
  by_cases h2:b=0
  ·subst h2
   by_cases h3:c=0
   ·subst h3; rfl
   ·simp [h3]
  ·simp [h2]
 ·simp [h1]
theorem or_lt {f:Frm} {a b:List Int}:orI [Jau f a - Jau f b,(a.length:Int) - (b.length:Int),cmpL a b] < 0 ↔ LtK f a b:=by
 rw [orI3]
 unfold LtK
 by_cases h1:Jau f a=Jau f b
 ·rw [if_pos (by omega)]
  by_cases h2:a.length=b.length
  ·rw [if_pos (by omega),JkV h2]
   constructor
   ·intro h; exact .inr ⟨h1,.inr ⟨h2,h⟩⟩
   ·rintro (h | ⟨_,h | ⟨_,h⟩⟩)
    ·omega
    ·omega
    ·exact h
  ·rw [if_neg (by omega)]
   constructor
   ·intro h; exact .inr ⟨h1,.inl (by omega)⟩
   ·rintro (h | ⟨_,h | ⟨h,_⟩⟩)
    ·omega
    ·omega
    ·omega
 ·rw [if_neg (by omega)]
  constructor
  ·intro h; exact .inl (by omega)
  ·rintro (h | ⟨h,_⟩) <;> omega
def BestO (f:Frm) (n:Nat) (x:List Int × Int):Prop:=x.2=Jau f x.1/\(∃ w:Nat,w < n/\x.1=outP f (w:Int)/\(Jb9 f (w:Int)).isSome=true) /\ ∀ v:Nat,v < n->(Jb9 f (v:Int)).isSome=true -> ¬ LtK f (outP f (v:Int)) x.1
theorem Jih {f:Frm} {x:List Int × Int} (hx:x.2=Jau f x.1) (w:Int):Jie f (some x) w=true ↔ ¬ LtK f (outP f w) x.1:=by
 unfold Jie
 simp only [decide_eq_true_eq]
 rw [hx,← or_lt]
 omega
theorem Jos (f:Frm):∀ n,(Ja9 f n=none -> ∀ v,v < n->(Jb9 f (v:Int)).isSome=false) /\ ∀ x,Ja9 f n=some x->BestO f n x:=by
 intro n
 induction n with
 | zero=>exact ⟨fun _ v hv=>absurd hv (Nat.not_lt_zero _),fun x h=>(by cases h)⟩
 | succ n ih =>
  obtain ⟨ih1,ih2⟩:=ih
  rw [JeQ]
  unfold JkT
  cases e:Ja9 f n with
  | none =>
   have h0:=ih1 e
   cases hw:(Jb9 f (n:Int)).isSome with
   | false =>
    rw [if_pos (by simp [Jie])]
    exact ⟨fun _=>Jad h0 hw,fun x h=>(by cases h)⟩
   | true =>
    rw [if_neg (by simp [Jie])]
    refine ⟨fun h=>(by cases h),fun x h => ?_⟩
    cases h
    refine ⟨rfl,⟨n,Nat.lt_succ_self n,rfl,hw⟩,fun v hv hc => ?_⟩
    by_cases hvn:v=n
    ·subst hvn; exact JmF
    ·rw [h0 v (by omega)] at hc; cases hc
  | some x =>
   obtain ⟨g1,⟨w,g2,g3,g4⟩,g5⟩:=ih2 x e
   cases hw:(Jb9 f (n:Int)).isSome with
   | false =>
    rw [if_pos (by simp)]
    refine ⟨fun h=>(by cases h),fun y h => ?_⟩
    cases h
    refine ⟨g1,⟨w,by omega,g3,g4⟩,fun v hv hc => ?_⟩
    by_cases hvn:v=n
    ·subst hvn; rw [hw] at hc; cases hc
    ·exact g5 v (by omega) hc
   | true =>
    by_cases hl:LtK f (outP f (n:Int)) x.1
    ·have:Jie f (some x) (n:Int)=false:=by
      cases e2:Jie f (some x) (n:Int) with
      | false=>rfl
      | true=>exact absurd hl ((Jih g1 _).1 e2)
     rw [this,if_neg (by simp)]
     refine ⟨fun h=>(by cases h),fun y h => ?_⟩
     cases h
     refine ⟨rfl,⟨n,Nat.lt_succ_self n,rfl,hw⟩,fun v hv hc => ?_⟩
     by_cases hvn:v=n
     ·subst hvn; exact JmF
     ·intro h; exact g5 v (by omega) hc (JmE h hl)
    ·rw [(Jih g1 _).2 hl,if_pos (by simp)]
     refine ⟨fun h=>(by cases h),fun y h => ?_⟩
     cases h
     refine ⟨g1,⟨w,by omega,g3,g4⟩,fun v hv hc => ?_⟩
     by_cases hvn:v=n
     ·subst hvn; exact hl
     ·exact g5 v (by omega) hc
theorem JmG {f:Frm} (hs:Sound f) {x:List Int × Int} (h:refP f=some x):x.2=Jau f x.1/\RisN f.pieces.length x.1/\canP f x.1=true /\ ∀ l,RisN f.pieces.length l->canP f l=true -> ¬ LtK f l x.1:=by
 obtain ⟨h1,⟨w,h2,h3,h4⟩,h5⟩:=(Jos f (2 ^ f.pieces.length)).2 x h
 rw [Jk7 hs] at h4
 refine ⟨h1,by rw [h3]; exact Jq3 _ _,by rw [h3]; exact h4,fun l hl hc => ?_⟩
 obtain ⟨v,hv,e⟩:=Jq5 hl
 have:=h5 v hv (by rw [Jk7 hs]; unfold outP; rw [e]; exact hc)
 unfold outP at this
 rw [e] at this; exact this
end Go.Sh
namespace Go.Sh
open Go.Ab
def Jbk (f:Frm):Nat->List Int->List (List (List Int))
 | 0,_=>[[]]
 | m + 1,left=>(JbG left).flatMap fun s=>if JdY f (f.columns.length - (m + 1)) (JaA f s) then (Jbk f m (Jaq left s)).map (s :: ·) else []
theorem Jk8 {f:Frm} {left s:List Int} (h:GoodLeft f left) (hs:s ∈ JbG left):∃ i,i < Jak left/\s=setN left i:=by
 rw [Je5] at hs
 obtain ⟨i,hi,e⟩:=List.mem_map.1 hs
 exact ⟨i,List.mem_range.1 hi,e.symm⟩
theorem JmH {f:Frm} (hs:Sound f) (c:Nat) {n:Int} (hn:0<=n):JdY f c n=Ja1 n (Jen f (Jax f (col f c))).lo (Jen f (Jax f (col f c))).hi:=by
 rw [Bool.eq_iff_iff,Jjn hn]
 have h:=high_bound' hs (Jc5 hs c)
 have h2:=hs.slack
 unfold JdY JaU Jq2
 rw [Bool.and_eq_true,JaB,JaB]
 omega
theorem flatMap_congr' {α β:Type} {f g:α->List β}:∀ {l:List α},(∀ x,x ∈ l->f x=g x)->l.flatMap f=l.flatMap g:=by
 intro l
 induction l with
 | nil=>intro _; rfl
 | cons x l ih =>
  intro h
  rw [List.flatMap_cons,List.flatMap_cons,h x (by simp),ih (fun y hy=>h y (by simp [hy]))]
theorem Jot {f:Frm} (hs:Sound f):∀ (m:Nat) (left:List Int),m<=f.columns.length->GoodLeft f left->Jbk f m left=Jjm f ((JaH f 0 f.columns.length).drop (f.columns.length - m)) left:=by
 intro m
 induction m with
 | zero=>intro left _ _; rw [Nat.sub_zero,List.drop_of_length_le (by rw [Jcf]; exact Nat.le_refl _)]; rfl
 | succ m ih =>
  intro left hm hl
  have hc:f.columns.length - (m + 1) < f.columns.length:=by omega
  rw [Ji0 ⟨0,0⟩ (by rw [Jcf]; exact hc),JmC hc,Jk6,Jbk,Jjm]
  refine flatMap_congr' fun s hs' => ?_
  obtain ⟨i,hi,rfl⟩:=Jk8 hl hs'
  rw [JmH hs _ (Ji5 hs (hl.isSet hi)).1,ih _ (by omega) (hl.rest hi),show f.columns.length - (m + 1) + 1=f.columns.length - m by omega]
theorem JmI {f:Frm} (hs:Sound f):Jbk f f.columns.length (Jar f f.strips.length)=Jjm f (JaH f 0 f.columns.length) (Jar f f.strips.length):=by
 rw [Jot hs _ _ (Nat.le_refl _) (Jet hs),Nat.sub_self]; rfl
theorem JkW {f:Frm} (hs:Sound f):Jb9 f 0=fmL (Jbk f f.columns.length (Jar f f.strips.length)):=by
 rw [JmI hs]; unfold Jb9; rw [Jq0]
theorem JmJ (ls:List (List (List Int))):(fmL ls).isSome=decide ((ls.length:Int) > 0):=by
 cases e:fmL ls with
 | none=>rw [Jq1 e]; rfl
 | some x =>
  cases ls with
  | nil=>cases e
  | cons y ls=>simp
theorem JmK {f:Frm} (hs:Sound f):∀ (m:Nat) (left:List Int),GoodLeft f left->Jak left<=30->(Jbk f m left).length<=30 ^ m:=by
 intro m
 induction m with
 | zero=>intro left _ _; exact Nat.le_refl _
 | succ m ih =>
  intro left hl hp
  rw [Jbk]
  have h1:=Jfr (fun s=>if JdY f (f.columns.length - (m + 1)) (JaA f s) then (Jbk f m (Jaq left s)).map (s :: ·) else []) (30 ^ m) (JbG left) (fun s hs'=>by
   obtain ⟨i,hi,rfl⟩:=Jk8 hl hs'
   split
   ·rw [List.length_map]
    refine ih _ (hl.rest hi) (Nat.le_trans ?_ hp)
    have:∀ (a b:List Int),a.length=b.length->(∀ q,q < a.length->a.getD q 0<=b.getD q 0)->Jak a<=Jak b:=by
     intro a
     induction a with
     | nil=>intro b h _; rw [List.eq_nil_of_length_eq_zero h.symm]; exact Nat.le_refl _
     | cons x a iha =>
      intro b h h2
      match b,h,h2 with
      | y :: b,h,h2 =>
       have h0:x<=y:=h2 0 (Nat.succ_pos _)
       exact Nat.mul_le_mul (by omega) (iha b (Nat.succ.inj h) (fun q hq=>h2 (q + 1) (Nat.succ_lt_succ hq)))
    refine this _ _ (JbC _ _) (fun q hq => ?_)
    rw [JbC] at hq
    rw [Jdg hq]
    have:=hl.set hi q hq
    omega
   ·exact Nat.zero_le _)
  have h2:(JbG left).length=Jak left:=by rw [Je5,List.length_map,List.length_range]
  rw [h2] at h1
  exact Nat.le_trans h1 (by rw [Nat.pow_succ,Nat.mul_comm]; exact Nat.mul_le_mul_left _ hp)
end Go.Sh
namespace Go.Sh
open Go.Ab
structure AsGood (f o:Frm):Prop where
 strips:o.strips.length=f.strips.length
 thick:∀ i,(stp o i).thick=(stp f i).thick
 many:∀ i,i < f.strips.length->(stp f i).many<=(stp o i).many
 columns:o.columns=f.columns
 length:o.length=f.length
 slack:f.slack<=o.slack
 pieces:o.pieces.length=f.pieces.length
 high:∀ i,(pc f i).lo<=(pc o i).lo/\(pc o i).hi<=(pc f i).hi
 pence:∀ i,(pc o i).pence=(pc f i).pence
end Go.Sh
namespace Go.Sh
open Go.Ab
variable {f:Frm}
end Go.Sh
namespace Go.Sh
structure Plc where
 column:Int
 set:List Int
 one:Int
 other:Int
def JaI (f:Frm) (k:Nat) (m:Int):Frm:={ f with strips:=f.strips.set k { stp f k with many:=m } }
def exP:Frm:=⟨60,2,[⟨5,2⟩,⟨3,2⟩,⟨18,1⟩],[⟨20,21,9⟩,⟨30,30,5⟩,⟨40,41,7⟩,⟨12,13,4⟩],[[0,1],[2,3]]⟩
def exO:Frm:=JaI exP 1 3
end Go.Sh
namespace Go.En
open Go Go.Ab Go.Sh
end Go.En
namespace Go.Ab
open Go Go.RowKit Go.Proofs Go.Sh Go.En
def ou7 (f:Frm):OutSpec:={ args:=[vFrm f],pre:=Jai f,res := .agg [iv f.length,iv f.slack,.vec 0,.vec 1,.vec 2],hout:=[(0,.vec 58 2 f.strips.length (fun i=>JaK (stp f i))),(1,.vec 44 3 f.pieces.length (fun i=>JaD (pc f i))),(2,.vec 27 1 f.columns.length (fun i=>[Ja6 (col f i)]))] }
def h7 (f:Frm):Hint:={ X:=Nat,M:=fun i=>[(4,iv i)],H:=fun i=>[(120,.cells 26 [iv f.length,iv f.slack,.vec 72,.vec 104,.vec 5000]),(5000,.vec 27 1 i (fun k=>[Ja6 (col f k)]))],I:=fun i=>i<=f.columns.length,mu:=fun i=>f.columns.length - i,x0:=(0:Nat),nx:=fun i=>i + 1 }
def s7o (f:Frm) (id:Nat):CallSpec:=(ou7 f).at [(0,id),(1,id + 1),(2,id + 2)]
def s35 (f:Frm) (k m:Int):CallSpec:={ args:=[vFrm f,iv k,iv m],res:=vFrm (JaI f k.toNat m),pre:=Jai f/\0<=k/\k < f.strips.length }
def c35 (f:Frm) (k m:Int) (id:Nat):CallSpec:=s7o f id
def s21:CallSpec:={ args:=[],res := .tup [vFrm exP,vFrm exO] }
def c21:CallSpec:=s35 exP 1 3
def s21o (f o:Frm):CallSpec:={ args:=[],res := .tup [vFrm f,vFrm o],pre:=f=exP/\o=exO }
end Go.Ab
namespace Go.Ab
open Go Go.RowKit Go.Proofs Go.Sh Go.En
abbrev q3q (f:Frm) (x0:Nat) (Pq:Prop):Prop:=x0<=f.columns.length->Pq
abbrev q3r (f:Frm) (x0:Nat) (Pq:Prop):Prop:=q3q f x0 (decide ((x0:Int) < (↑(f.columns.length):Int))=true->Pq)
abbrev q3s (f:Frm) (x0:Nat) (Pq:Prop):Prop:=q3q f x0 (decide ((x0:Int) < (↑(f.columns.length):Int))=false->Pq)
theorem wo7 (f:Frm)
 (o0:Jai f->0 + List.length (Frm.strips f)<=65536)
 (o1:Jai f->0 + List.length (Frm.pieces f)<=65536)
 (o2:Jai f->0=(↑0:Int))
 (o3:Jai f->0<=List.length (Frm.columns f))
 (o4:Jai f -> ∀ (x0:Nat),q3r f x0 (0<=(x0:Int)))
 (o5:Jai f -> ∀ (x0:Nat),q3r f x0 ((x0:Int) < (↑(f.columns.length):Int)))
 (o6:Jai f -> ∀ (x0:Nat),q3r f x0 (0 + (col f x0).length<=65536))
 (o7:Jai f -> ∀ (x0:Nat),q3r f x0 (x0 + 1<=65536))
 (o8:Jai f -> ∀ (x0:Nat),q3r f x0 (inI ((x0:Int) + 1)))
 (o9:Jai f -> ∀ (x0:Nat),q3r f x0 ((x0:Int) + 1=(↑(x0 + 1):Int)))
 (o10:Jai f -> ∀ (x0:Nat),q3r f x0 (∀ (i2:Nat),i2 < x0 + 1->catF x0 (fun (k:Nat)=>[Ja6 (col f k)]) (fun (j:Nat)=>List.getD [[AV.sl 1 (0 + (col f x0).length) fun (i:Nat)=>[iv ((col f x0).getD i 0)]]] j (TI.za ti27)) i2 = [Ja6 (col f i2)]))
 (o11:Jai f -> ∀ (x0:Nat),q3r f x0 (x0 + 1<=f.columns.length))
 (o12:Jai f -> ∀ (x0:Nat),q3r f x0 (f.columns.length - (x0 + 1) < f.columns.length - x0))
 (o13:Jai f -> ∀ (x0:Nat),q3s f x0 (0 + f.strips.length=f.strips.length))
 (o14:Jai f -> ∀ (x0:Nat),q3s f x0 (0 + f.pieces.length=f.pieces.length))
 (o15:Jai f -> ∀ (x0:Nat),q3s f x0 (x0=f.columns.length))
  (l:List (Nat × Nat)) (hl:l.map (·.1)=(OutSpec.hout (ou7 f)).map (·.1)) (hnd:(l.map (·.2)).Nodup) :
  Ja4 Tryz.prog 7 (OutSpec.at (ou7 f) l):=by
 refine Jbu Tryz.func7 rfl Tryz.call7 Jaw _ _ _ _ l rfl (Nat.le_of_ble_eq_true (by kernel_rfl)) hl hnd (by kernel_rfl) (by kernel_rfl) (by kernel_rfl) ?_
 intro hpre C hC hE
 obtain ⟨P,w0,E0,av,hA,ro,df⟩:=C
 obtain ⟨rfl,rfl,rfl⟩:=hC
 refine Ja0 ?_
 refine zR [1,2] [0,8] (Ak 2 tv) ?_
 refine Ja0 ?_
 refine zR [1,2,3] [0,8,120,72,104] (Ak 7 (An (o0 hpre) (Ak 3 (An (o1 hpre) (Ak 3 tv))))) ?_
 refine Ja0 ?_
 refine Ja0 ?_
 refine zR [1,2,3,4] [0,8,120,72,104] (Ak 1 tv) ?_
 refine Ja2 ?_
 refine zL (Hint.ann (h7 f) [(1,AV.ptr 0 []),(2,AV.ptr 8 []),(3,AV.ptr 120 [])] [(0,OB.cells 26 (cFrm f)),(8,OB.cells 26 [iv 0,iv 0,nilv,nilv,nilv]),(72,OB.vec 58 2 (0 + f.strips.length) fun (i:Nat)=>JaK (stp f i)),(104,OB.vec 44 3 (0 + f.pieces.length) fun (i:Nat)=>JaD (pc f i))] 10144) (zE hE [] [(0,.same 0),(8,.same 8),(120,.same 120),(72,.same 72),(104,.same 104),(5000,.nil)] [] [0,8,72,104] (An (An (An (zr (some (Src.same 0))) (zr nilP)) (An (An (zr (some (Src.same 8))) (zr nilP)) (An (An (zr (some (Src.same 120))) (zr nilP)) (An (An (ci (o2 hpre)) (zr nilN)) tv)))) (An (An (An (zr (OB.cells 26 (cFrm f))) (zr true)) (An (An (zr (OB.cells 26 [iv 0,iv 0,nilv,nilv,nilv])) (zr true)) (An (An (zr (OB.vec 58 2 (0 + f.strips.length) fun (i:Nat)=>JaK (stp f i))) (zr true)) (An (An (zr (OB.vec 44 3 (0 + f.pieces.length) fun (i:Nat)=>JaD (pc f i))) (zr true)) (An (An (zr 26) (An (An (An (zr (iv f.length)) (zr nilN)) (An (An (zr (iv f.slack)) (zr nilN)) (An (zr (some (Src.same 72))) (An (zr (some (Src.same 104))) (An (zr (some Src.nil)) tv))))) (zr true))) (An (zr 0) tv)))))) (An (zr true) (zr true))))) (o3 hpre) (fun (x0:Nat) hx0 => ?_)
 refine Ja0 ?_
 refine Ja0 ?_
 refine zR [1,2,3,4,22] [0,8,120,72,104,5000] (Ak 5 tv) ?_
 refine zI (decide ((x0:Int) < (↑(f.columns.length):Int))) (fun y1 => ?_) (fun y1 => ?_)
 ·refine Ja3 ?_
  refine Ja0 ?_
  refine Ja2 ?_
  refine zR [1,2,3,4] [0,8,120,72,104,10264] (Ak 6 (An (An (o4 hpre x0 hx0 y1) (o5 hpre x0 hx0 y1)) (Ak 1 (An (o6 hpre x0 hx0 y1) (Ak 1 (An (o7 hpre x0 hx0 y1) (Ak 2 tv))))))) ?_
  refine zR [1,2,3,4] [0,8,120,72,104,10264] (Ak 1 (An (o8 hpre x0 hx0 y1) (Ak 1 tv))) ?_
  exact zn (zE hE [] [(0,.same 0),(8,.same 8),(120,.same 120),(72,.same 72),(104,.same 104),(5000,.same 10264)] [] [0,8,72,104] (An (An (An (zr (some (Src.same 0))) (zr nilP)) (An (An (zr (some (Src.same 8))) (zr nilP)) (An (An (zr (some (Src.same 120))) (zr nilP)) (An (An (ci (o9 hpre x0 hx0 y1)) (zr nilN)) tv)))) (An (An (An (zr (OB.cells 26 (cFrm f))) (zr true)) (An (An (zr (OB.cells 26 [iv 0,iv 0,nilv,nilv,nilv])) (zr true)) (An (An (zr (OB.vec 58 2 (0 + f.strips.length) fun (i:Nat)=>JaK (stp f i))) (zr true)) (An (An (zr (OB.vec 44 3 (0 + f.pieces.length) fun (i:Nat)=>JaD (pc f i))) (zr true)) (An (An (zr 26) (An (An (An (zr (iv f.length)) (zr nilN)) (An (An (zr (iv f.slack)) (zr nilN)) (An (zr (some (Src.same 72))) (An (zr (some (Src.same 104))) (An (zr (some (Src.same 10264))) tv))))) (zr true))) (An (An (zr 27) (An (zr 1) (An (zr (x0 + 1)) (fun (i2:Nat)=>(fun (y3:i2 < x0 + 1)=>(o10 hpre x0 hx0 y1 i2 y3)))))) tv)))))) (An (zr true) (zr true))))) (o11 hpre x0 hx0 y1) (o12 hpre x0 hx0 y1)
 ·refine Jaa ?_
  refine Ja0 ?_
  refine zR [2] [8,72,104,5000] (Ak 2 tv) ?_
  refine Ja5 ?_
  exact zO (ASt.mk [(2,AV.ptr 90 [])] [(90,OB.cells 26 [iv f.length,iv f.slack,AV.vec 0,AV.vec 1,AV.vec 2]),(0,OB.vec 58 2 f.strips.length fun (i:Nat)=>JaK (stp f i)),(1,OB.vec 44 3 f.pieces.length fun (i:Nat)=>JaD (pc f i)),(2,OB.vec 27 1 f.columns.length fun (i:Nat)=>[Ja6 (col f i)])] 100) (zE hE [] [(90,.same 8),(0,.same 72),(1,.same 104),(2,.same 5000)] [] [] (An (An (An (zr (some (Src.same 8))) (zr nilP)) tv) (An (An (An (zr 26) (An (An (An (zr (iv f.length)) (zr nilN)) (An (An (zr (iv f.slack)) (zr nilN)) (An (zr (some (Src.same 72))) (An (zr (some (Src.same 104))) (An (zr (some (Src.same 5000))) tv))))) (zr true))) (An (An (zr 58) (An (zr 2) (An (o13 hpre x0 hx0 y1) (fun (i4:Nat)=>(fun (y5:i4 < 0 + f.strips.length)=>(zr (JaK (stp f i4)))))))) (An (An (zr 44) (An (zr 3) (An (o14 hpre x0 hx0 y1) (fun (i6:Nat)=>(fun (y7:i6 < 0 + f.pieces.length)=>(zr (JaD (pc f i6)))))))) (An (An (zr 27) (An (zr 1) (An (o15 hpre x0 hx0 y1) (fun (i8:Nat)=>(fun (y9:i8 < x0)=>(zr ([Ja6 (col f i8)]))))))) tv)))) (An (zr true) (zr true))))) (An (Ak 1 tv) (An (zr (AV.agg [iv f.length,iv f.slack,AV.vec 0,AV.vec 1,AV.vec 2])) (An (zr (some (OB.vec 58 2 f.strips.length fun (i:Nat)=>JaK (stp f i)))) (An (zr (some (OB.vec 44 3 f.pieces.length fun (i:Nat)=>JaD (pc f i)))) (An (zr (some (OB.vec 27 1 f.columns.length fun (i:Nat)=>[Ja6 (col f i)]))) tv)))))
theorem to7 (f:Frm) (l:List (Nat × Nat)) (hl:l.map (·.1) = [0,1,2]) (hnd:(l.map (·.2)).Nodup):Ja4 Tryz.prog 7 ((ou7 f).at l):=by
 apply wo7 (l:=l) (hl:=hl) (hnd:=hnd)
 all_goals (try delta q3q q3r q3s)
 all_goals (intro hp; obtain ⟨a1,a2,a3,a4⟩:=hp)
 case o6=>intro x hx hl; have:=a4 x; show _<=_; omega
 case o10 =>
  intro x hx hl i hi
  refine Jh7 (fun k=>[Ja6 (col f k)]) ?_ hi
  show [AV.sl 1 (0 + (col f x).length) _] = [Ja6 (col f x)]
  rw [Nat.zero_add]; rfl
 all_goals (first | omega | rfl | skip)
 all_goals (intro x hx hl; try simp only [decide_eq_true_eq,decide_eq_false_iff_not] at hl)
 all_goals (first | omega | (simp only [inI]; omega))
theorem t7o (f:Frm) (id:Nat):Ja4 Tryz.prog 7 (s7o f id):=to7 f _ rfl (by simp)
abbrev q3t (f:Frm) (k:Int) (Pq:Prop):Prop:=Jai f/\0<=k/\k < (↑(f.strips.length):Int)->Pq
theorem w35 (f:Frm) (k:Int) (m:Int)
 (o0:q3t f k (0<=k))
 (o1:q3t f k (k < (↑(f.strips.length):Int)))
 (o2:q3t f k (k.toNat < f.strips.length))
 (o3:q3t f k (0<=k))
 (o4:q3t f k (k < (↑(f.strips.length):Int)))
 (o5:q3t f k (k.toNat < f.strips.length))
 (o6:q3t f k (f.length=(JaI f k.toNat m).length))
 (o7:q3t f k (f.slack=(JaI f k.toNat m).slack))
 (o8:q3t f k (f.strips.length=(JaI f k.toNat m).strips.length))
 (o9:q3t f k (∀ (i1:Nat),i1 < (JaI f k.toNat m).strips.length->Decidable.rec (fun (h:¬i1=k.toNat)=>JaK (stp f i1)) (fun (h:i1=k.toNat)=>[iv (stp f k.toNat).thick,iv m] ++ []) (instDecidableEqNat i1 k.toNat)=JaK (stp (JaI f k.toNat m) i1)))
 (o10:q3t f k (f.pieces.length=(JaI f k.toNat m).pieces.length))
 (o11:q3t f k (∀ (i3:Nat),i3 < (JaI f k.toNat m).pieces.length->JaD (pc f i3)=JaD (pc (JaI f k.toNat m) i3)))
 (o12:q3t f k (f.columns.length=(JaI f k.toNat m).columns.length))
 (o13:q3t f k (∀ (i5:Nat),i5 < (JaI f k.toNat m).columns.length -> [Ja6 (col f i5)] = [Ja6 (col (JaI f k.toNat m) i5)])) :
  Ja4 Tryz.prog 35 (s35 f k m):=by
 refine Ja7 Tryz.func35 rfl Tryz.call35 Jaw _ rfl rfl rfl rfl (Nat.le_of_ble_eq_true (by kernel_rfl)) (fun _ _ _ _ h=>h) ?_
 intro hpre C hC _ hE
 obtain ⟨P,w0,E0,av,hA,ro,df⟩:=C
 obtain ⟨rfl,rfl,rfl⟩:=hC
 refine Ja0 ?_
 refine zR [1,2,3,6] [0,8] (Ak 2 tv) ?_
 refine Ja0 ?_
 refine zC ([(1,CallSpec.eq (c35 f k m 24) [true])]) [1,2,6,7] [8,32,24,25,26] (Ak 1 (An (An (An (zr (AV.agg (cFrm f))) tv) (An (t7o (f) (24)) (An hpre.1 (Ak 1 (fun (i0:Env)=>tv))))) (Ak 2 tv))) ?_
 refine Ja0 ?_
 refine zR [1,2,6,7,8] [8,32,88,24,25,26] (Ak 3 (An (An (o0 hpre) (o1 hpre)) (An (An (o2 hpre) tv) (Ak 2 tv)))) ?_
 refine Ja0 ?_
 refine zR [1,6,7,8] [8,32,88,24,25,26] (Ak 3 tv) ?_
 refine Ja0 ?_
 refine zR [6,7] [8,32,24,25,26] (Ak 4 (An (An (o3 hpre) (o4 hpre)) (An (An (o5 hpre) tv) tv))) ?_
 refine Ja0 ?_
 refine zR [6] [8,24,25,26] (Ak 2 tv) ?_
 refine Ja5 ?_
 exact zT [24,25,26] (An (Ak 1 tv) (An (An (An (ci (o6 hpre)) (zr nilN)) (An (An (ci (o7 hpre)) (zr nilN)) (An (An (zr 2) (An (o8 hpre) (fun (i1:Nat)=>(fun (y2:i1 < (JaI f k.toNat m).strips.length)=>(o9 hpre i1 y2))))) (An (An (zr 3) (An (o10 hpre) (fun (i3:Nat)=>(fun (y4:i3 < (JaI f k.toNat m).pieces.length)=>(o11 hpre i3 y4))))) (An (An (zr 1) (An (o12 hpre) (fun (i5:Nat)=>(fun (y6:i5 < (JaI f k.toNat m).columns.length)=>(o13 hpre i5 y6))))) tv))))) (An (zr true) (An (zr true) (zr true)))))
theorem Jjp {f:Frm} {k:Nat} (hk:k < f.strips.length) (m:Int) (j:Nat):stp (JaI f k m) j=if j=k then { stp f k with many:=m } else stp f j:=by
 show (f.strips.set k _).getD j default=_
 rw [List.getD_eq_getElem?_getD,List.getElem?_set]
 by_cases e:k=j
 ·subst e; rw [if_pos rfl,if_pos hk,if_pos rfl]; rfl
 ·rw [if_neg e,if_neg (fun h=>e h.symm),stp,List.getD_eq_getElem?_getD]
theorem t35 (f:Frm) (k m:Int):Ja4 Tryz.prog 35 (s35 f k m):=by
 apply w35
 all_goals (try delta q3t)
 all_goals (rintro ⟨hp,h1,h2⟩)
 case o8=>exact List.length_set.symm
 case o9 =>
  intro i hi
  rw [Jjp (by omega)]
  refine Jgp (fun h => ?_) (fun h => ?_)
  ·rw [if_neg h]
  ·rw [if_pos h]; rfl
 all_goals (first | omega | rfl | (intro i hi; rfl))
theorem w21 
  (o0:60=Frm.length exP)
  (o1:2=Frm.slack exP)
  (o2:∀ (i0:Nat),i0 < exP.strips.length->List.getD [[iv 5,iv 2],[iv 3,iv 2],[iv 18,iv 1]] i0 (TI.za ti58)=JaK (stp exP i0))
  (o3:∀ (i2:Nat),i2 < exP.pieces.length->List.getD [[iv 20,iv 21,iv 9],[iv 30,iv 30,iv 5],[iv 40,iv 41,iv 7],[iv 12,iv 13,iv 4]] i2 (TI.za ti44)=JaD (pc exP i2))
  (o4:∀ (i4:Nat),i4 < exP.columns.length->List.getD [[AV.sl 1 2 fun (j:Nat)=>List.getD [[iv 0],[iv 1]] j (TI.za ti3)],[AV.sl 1 2 fun (j:Nat)=>List.getD [[iv 2],[iv 3]] j (TI.za ti3)]] i4 (TI.za ti27) = [Ja6 (col exP i4)])
  (o5:Jai exP)
  (o6:Frm.length (JaI exP 1 3)=Frm.length exO)
  (o7:Frm.slack (JaI exP 1 3)=Frm.slack exO)
  (o8:∀ (i13:Nat),i13 < exO.strips.length->JaK (stp (JaI exP 1 3) i13)=JaK (stp exO i13))
  (o9:∀ (i15:Nat),i15 < exO.pieces.length->JaD (pc (JaI exP 1 3) i15)=JaD (pc exO i15))
  (o10:∀ (i17:Nat),i17 < exO.columns.length -> [Ja6 (col (JaI exP 1 3) i17)] = [Ja6 (col exO i17)]) :
  Ja4 Tryz.prog 21 (s21):=by
 refine Ja7 Tryz.func21 rfl Tryz.call21 Jaw _ rfl rfl rfl rfl (Nat.le_of_ble_eq_true (by kernel_rfl)) (fun _ _ _ _ h=>h) ?_
 intro _ C hC _ hE
 obtain ⟨P,w0,E0,av,hA,ro,df⟩:=C
 obtain ⟨rfl,rfl,rfl⟩:=hC
 refine Ja0 ?_
 refine zR [0,1] [0,8] (Ak 2 tv) ?_
 refine Ja0 ?_
 refine zR [0,1] [0,8,40,112,136] (Ak 18 tv) ?_
 refine Ja0 ?_
 refine Jbi (zE (st2:=ASt.mk [(0,AV.ptr 0 []),(1,AV.ptr 8 [])] [(0,OB.cells 26 (cFrm exP)),(8,OB.cells 26 [iv 0,iv 0,nilv,nilv,nilv])] 160) hE [40,112,136] [(0,.same 0),(8,.same 8)] [] [8] (An (An (An (zr (some (Src.same 0))) (zr nilP)) (An (An (zr (some (Src.same 8))) (zr nilP)) tv)) (An (An (An (zr 26) (An (An (An (ci (o0)) (zr nilN)) (An (An (ci (o1)) (zr nilN)) (An (An (zr 2) (An (by decide:3=exP.strips.length) (fun (i0:Nat)=>(fun (y1:i0 < exP.strips.length)=>(o2 i0 y1))))) (An (An (zr 3) (An (by decide:4=exP.pieces.length) (fun (i2:Nat)=>(fun (y3:i2 < exP.pieces.length)=>(o3 i2 y3))))) (An (An (zr 1) (An (by decide:2=exP.columns.length) (fun (i4:Nat)=>(fun (y5:i4 < exP.columns.length)=>(o4 i4 y5))))) tv))))) (zr true))) (An (An (zr (OB.cells 26 [iv 0,iv 0,nilv,nilv,nilv])) (zr true)) tv)) (An (zr true) (zr true))))) ?_
 refine zC ([(2,CallSpec.eq c21 [true,true,true])]) [0,1] [0,8] (Ak 2 (An (An (An (zr (AV.agg (cFrm exP))) (An (zr (iv 1)) (An (zr (iv 3)) tv))) (An (t35 (exP) (1) (3)) (An (An (o5) (An (by decide:Int.ofNat 0<=Int.ofNat 1) (by decide:1 < (↑(exP.strips.length):Int)))) (Ak 1 (fun (i6:Env)=>tv))))) (Ak 2 tv))) ?_
 refine Ja5 ?_
 exact zT [] (An (Ak 2 tv) (An (An (An (An (zr (iv exP.length)) (zr nilN)) (An (An (zr (iv exP.slack)) (zr nilN)) (An (An (zr 2) (An (zr exP.strips.length) (fun (i7:Nat)=>(fun (y8:i7 < exP.strips.length)=>(zr (JaK (stp exP i7))))))) (An (An (zr 3) (An (zr exP.pieces.length) (fun (i9:Nat)=>(fun (y10:i9 < exP.pieces.length)=>(zr (JaD (pc exP i9))))))) (An (An (zr 1) (An (zr exP.columns.length) (fun (i11:Nat)=>(fun (y12:i11 < exP.columns.length)=>(zr ([Ja6 (col exP i11)])))))) tv))))) (An (An (An (ci (o6)) (zr nilN)) (An (An (ci (o7)) (zr nilN)) (An (An (zr 2) (An (by decide:(JaI exP 1 3).strips.length=exO.strips.length) (fun (i13:Nat)=>(fun (y14:i13 < exO.strips.length)=>(o8 i13 y14))))) (An (An (zr 3) (An (by decide:(JaI exP 1 3).pieces.length=exO.pieces.length) (fun (i15:Nat)=>(fun (y16:i15 < exO.pieces.length)=>(o9 i15 y16))))) (An (An (zr 1) (An (by decide:(JaI exP 1 3).columns.length=exO.columns.length) (fun (i17:Nat)=>(fun (y18:i17 < exO.columns.length)=>(o10 i17 y18))))) tv))))) tv)) (An (zr true) (An (zr true) (zr true)))))
theorem JmL {f:Frm} (h:decide (f.strips.length<=64) && decide (f.pieces.length<=64) && decide (f.columns.length<=64) && f.columns.all (fun c=>decide (c.length<=64))=true):Jai f:=by
 simp only [Bool.and_eq_true,decide_eq_true_eq] at h
 refine ⟨h.1.1.1,h.1.1.2,h.1.2,fun i => ?_⟩
 by_cases hi:i < f.columns.length
 ·have:=Jde [] h.2 hi
  exact of_decide_eq_true this
 ·have:col f i = []:=JbY _ _ (by omega)
  rw [this]; exact Nat.zero_le _
theorem Jii:Jai exP:=JmL (by decide)
theorem Jpa {sz n:Nat} {f g:Nat->List AV} (h:∀ j,f j=g j):AV.sl sz n f = .sl sz n g:=by rw [funext h]
theorem t21:Ja4 Tryz.prog 21 s21:=by
 apply w21
 case o2 =>
  intro i hi
  have:i=0 ∨ i=1 ∨ i=2:=by simp [exP] at hi; omega
  rcases this with rfl | rfl | rfl <;> rfl
 case o3 =>
  intro i hi
  have:i=0 ∨ i=1 ∨ i=2 ∨ i=3:=by simp [exP] at hi; omega
  rcases this with rfl | rfl | rfl | rfl <;> rfl
 case o4 =>
  intro i hi
  have:i=0 ∨ i=1:=by simp [exP] at hi; omega
  rcases this with rfl | rfl
  ·exact congrArg (fun z=>[z]) (Jpa fun j=>by rcases j with _ | _ | j <;> rfl)
  ·exact congrArg (fun z=>[z]) (Jpa fun j=>by rcases j with _ | _ | j <;> rfl)
 case o5=>exact Jii
 all_goals (first | rfl | (intro i hi; rfl) | decide)
theorem t21o (f o:Frm):Ja4 Tryz.prog 21 (s21o f o):=⟨t21.1,fun h=>by obtain ⟨rfl,rfl⟩:=h; exact t21.2 trivial⟩
set_option maxRecDepth 4000
theorem Jjq {f:Frm} (h:Sound f):Jai f:=by
 have h1:=h.strips
 have h2:=h.pieces
 have h3:=h.columns
 exact ⟨by omega,by omega,by omega,fun i=>by have:=h.colLen i; omega⟩
end Go.Ab
namespace Go.Sh
open Go.Ab
variable {f:Frm}
end Go.Sh
namespace Go.Sh
open Go.Ab
variable {f:Frm}
end Go.Sh
namespace Go.Sh
end Go.Sh
namespace Go.Ab
open Go Go.RowKit Go.Proofs Go.Sh Go.En
def s34 (f:Frm):CallSpec:={ args:=[vFrm f],res:=Ja6 (Jar f f.strips.length),pre:=Sound f }
def h34 (f:Frm):Hint:={ X:=Nat,M:=fun n=>[(3,.vec 5000),(4,iv n)],H:=fun n=>[(5000,.vec 3 1 n (fun i=>[iv ((Jar f n).getD i 0)]))],I:=fun n=>n<=f.strips.length,mu:=fun n=>f.strips.length - n,x0:=(0:Nat),nx:=fun n=>n + 1 }
abbrev hC (f:Frm) (c:Int):Span:=Jax f (col f c.toNat)
end Go.Ab
namespace Go.Ab
open Go Go.RowKit Go.Proofs Go.Sh Go.En
abbrev q3u (f:Frm) (x0:Nat) (Pq:Prop):Prop:=x0<=f.strips.length->Pq
abbrev q3v (f:Frm) (x0:Nat) (Pq:Prop):Prop:=q3u f x0 (decide ((x0:Int) < (↑(f.strips.length):Int))=true->Pq)
theorem w34 (f:Frm)
 (o0:Sound f->0=(↑0:Int))
 (o1:Sound f->0<=List.length (Frm.strips f))
 (o2:Sound f -> ∀ (x0:Nat),q3v f x0 (0<=(x0:Int)))
 (o3:Sound f -> ∀ (x0:Nat),q3v f x0 ((x0:Int) < (↑(f.strips.length):Int)))
 (o4:Sound f -> ∀ (x0:Nat),q3v f x0 (x0 + 1<=65536))
 (o5:Sound f -> ∀ (x0:Nat),q3v f x0 (inI ((x0:Int) + 1)))
 (o6:Sound f -> ∀ (x0:Nat),q3v f x0 ((x0:Int) + 1=(↑(x0 + 1):Int)))
 (o7:Sound f -> ∀ (x0:Nat),q3v f x0 (∀ (i2:Nat),i2 < x0 + 1->catF x0 (fun (i:Nat)=>[iv ((Jar f x0).getD i 0)]) (fun (j:Nat)=>List.getD [[iv (stp f x0).many]] j (TI.za ti3)) i2 = [iv ((Jar f (x0 + 1)).getD i2 0)]))
 (o8:Sound f -> ∀ (x0:Nat),q3v f x0 (x0 + 1<=f.strips.length))
 (o9:Sound f -> ∀ (x0:Nat),q3v f x0 (f.strips.length - (x0 + 1) < f.strips.length - x0))
 (o10:Sound f -> ∀ (x0:Nat),q3u f x0 (decide ((x0:Int) < (↑(f.strips.length):Int))=false->x0=(Jar f f.strips.length).length))
 (o11:Sound f -> ∀ (x0:Nat),q3u f x0 (decide ((x0:Int) < (↑(f.strips.length):Int))=false -> ∀ (i4:Nat),i4 < (Jar f f.strips.length).length -> [iv ((Jar f x0).getD i4 0)] = [iv ((Jar f f.strips.length).getD i4 0)])) :
  Ja4 Tryz.prog 34 (s34 f):=by
 refine Ja7 Tryz.func34 rfl Tryz.call34 Jaw _ rfl rfl rfl rfl (Nat.le_of_ble_eq_true (by kernel_rfl)) (fun _ _ _ _ h=>h) ?_
 intro hpre C hC _ hE
 obtain ⟨P,w0,E0,av,hA,ro,df⟩:=C
 obtain ⟨rfl,rfl,rfl⟩:=hC
 refine Ja0 ?_
 refine zR [1] [0] (Ak 2 tv) ?_
 refine Ja0 ?_
 refine zR [1,3] [0] (Ak 1 tv) ?_
 refine Ja0 ?_
 refine Ja0 ?_
 refine zR [1,3,4] [0] (Ak 1 tv) ?_
 refine Ja2 ?_
 refine zL (Hint.ann (h34 f) [(1,AV.ptr 0 [])] [(0,OB.cells 26 (cFrm f))] 10032) (zE hE [] [(0,.same 0),(5000,.nil)] [] [0] (An (An (An (zr (some (Src.same 0))) (zr nilP)) (An (zr (some Src.nil)) (An (An (ci (o0 hpre)) (zr nilN)) tv))) (An (An (An (zr (OB.cells 26 (cFrm f))) (zr true)) (An (zr 0) tv)) (An (zr true) (zr true))))) (o1 hpre) (fun (x0:Nat) hx0 => ?_)
 refine Ja0 ?_
 refine Ja0 ?_
 refine zR [1,3,4,9] [0,5000] (Ak 5 tv) ?_
 refine zI (decide ((x0:Int) < (↑(f.strips.length):Int))) (fun y1 => ?_) (fun y1 => ?_)
 ·refine Ja3 ?_
  refine Ja0 ?_
  refine Ja2 ?_
  refine zR [1,3,4] [0,10136] (Ak 4 (An (An (o2 hpre x0 hx0 y1) (o3 hpre x0 hx0 y1)) (Ak 3 (An (o4 hpre x0 hx0 y1) (Ak 1 tv))))) ?_
  refine zR [1,3,4] [0,10136] (Ak 1 (An (o5 hpre x0 hx0 y1) (Ak 1 tv))) ?_
  exact zn (zE hE [] [(0,.same 0),(5000,.same 10136)] [] [0] (An (An (An (zr (some (Src.same 0))) (zr nilP)) (An (zr (some (Src.same 10136))) (An (An (ci (o6 hpre x0 hx0 y1)) (zr nilN)) tv))) (An (An (An (zr (OB.cells 26 (cFrm f))) (zr true)) (An (An (zr 3) (An (zr 1) (An (zr (x0 + 1)) (fun (i2:Nat)=>(fun (y3:i2 < x0 + 1)=>(o7 hpre x0 hx0 y1 i2 y3)))))) tv)) (An (zr true) (zr true))))) (o8 hpre x0 hx0 y1) (o9 hpre x0 hx0 y1)
 ·refine Jaa ?_
  refine Ja0 ?_
  refine zR [2] [5000] (Ak 2 tv) ?_
  refine Ja5 ?_
  exact zT [5000] (An (Ak 1 tv) (An (An (zr 1) (An (o10 hpre x0 hx0 y1) (fun (i4:Nat)=>(fun (y5:i4 < (Jar f f.strips.length).length)=>(o11 hpre x0 hx0 y1 i4 y5))))) (An (zr true) (An (zr true) (zr true)))))
theorem t34 (f:Frm):Ja4 Tryz.prog 34 (s34 f):=by
 apply w34
 all_goals (try delta q3u q3v)
 all_goals (intro hs; have hl:=hs.strips)
 case o0=>rfl
 case o1=>omega
 all_goals (intro x hx h; simp only [decide_eq_true_eq,decide_eq_false_iff_not] at h)
 case o7=>intro i hi; rw [Jes]; exact Jc4 _ _ 0 (fun z=>[iv z]) (JbN _ _).symm (fun _ _=>rfl) rfl (by rw [JbN]; exact hi)
 case o10=>rw [JbN]; omega
 case o11=>intro i hi; rw [show x=f.strips.length by omega]
 all_goals (first | omega | (simp only [inI]; omega))
end Go.Ab
namespace Go.Sh
open Go.Ab
def Jac (left first:List Int):List (List Int):=(JbG (left.drop first.length)).map (first ++ ·)
def JbQ (left first:List Int) (n:Nat):List (List Int):=(List.range n).flatMap fun (m:Nat)=>Jac left (first ++ [(m:Int)])
def Jfz (f:Frm) (c:Nat) (left s:List Int):List (List (List Int)):=if JdY f c (JaA f s) then (Jbk f (f.columns.length - (c + 1)) (Jaq left s)).map (s :: ·) else []
def JaW (f:Frm) (c:Nat) (left:List Int) (n:Nat):List (List (List Int)):=((JbG left).take n).flatMap (Jfz f c left)
def setI (left:List Int) (x:Nat):List Int:=(JbG left).getD x []
def Jcx (f:Frm) (c:Nat) (left:List Int) (x:Nat):List (List (List Int)):=Jbk f (f.columns.length - (c + 1)) (Jaq left (setI left x))
def Jbo (f:Frm) (c:Nat) (left:List Int) (x k:Nat):List (List (List Int)):=JaW f c left x ++ ((Jcx f c left x).take k).map (setI left x :: ·)
def laysA (f:Frm):List (List (List Int)):=Jbk f f.columns.length (Jar f f.strips.length)
variable {f:Frm} {left first:List Int}
theorem Jc6 (h:first.length=left.length):Jac left first = [first]:=by
 unfold Jac; rw [h,List.drop_length]; show [first ++ []] = [first]; rw [List.append_nil]
theorem JfA (left first:List Int) (n:Nat):JbQ left first (n + 1)=JbQ left first n ++ Jac left (first ++ [(n:Int)]):=by
 unfold JbQ; rw [List.range_succ,List.flatMap_append]; simp
theorem Jgs (h:first.length < left.length):JbQ left first ((left.getD first.length 0).toNat + 1)=Jac left first:=by
 unfold JbQ Jac
 rw [Ji0 0 h,JbG,List.map_flatMap]
 refine flatMap_congr' fun m _ => ?_
 rw [List.length_append,List.length_singleton,List.map_map]
 refine List.map_congr_left fun s _ => ?_
 show first ++ [(m:Int)] ++ s=first ++ ((m:Int) :: s)
 rw [List.append_assoc]; rfl
theorem JkX:∀ {l:List Int},(∀ q,q < l.length->l.getD q 0<=4)->Jak l<=5 ^ l.length:=by
 intro l
 induction l with
 | nil=>intro _; exact Nat.le_refl _
 | cons a l ih =>
  intro h
  have h0:a<=4:=h 0 (Nat.succ_pos _)
  have h1:=ih (fun q hq=>h (q + 1) (Nat.succ_lt_succ hq))
  show (a.toNat + 1) * Jak l<=5 ^ (l.length + 1)
  rw [Nat.pow_succ,Nat.mul_comm (5 ^ _)]
  exact Nat.mul_le_mul (by omega) h1
theorem JfB (l:List Int):(JbG l).length=Jak l:=by rw [Je5,List.length_map,List.length_range]
theorem JeB (h:left.length<=3) (h1:∀ q,q < left.length->left.getD q 0<=4) (first:List Int):(Jac left first).length<=125:=by
 unfold Jac
 rw [List.length_map,JfB]
 refine Nat.le_trans (JkX fun q hq => ?_) (Nat.le_trans (Nat.pow_le_pow_right (by omega) (show (left.drop first.length).length<=3 by rw [List.length_drop]; omega)) (by decide))
 rw [List.length_drop] at hq
 rw [Jmu]; exact h1 _ (by omega)
theorem JkY (h:left.length<=3) (h1:∀ q,q < left.length->left.getD q 0<=4) (first:List Int) (n:Nat):(JbQ left first n).length<=n * 125:=by
 have:=Jfr (fun m:Nat=>Jac left (first ++ [(m:Int)])) 125 (List.range n) (fun m _=>JeB h h1 _)
 rw [List.length_range] at this
 exact this
theorem JeC (left:List Int):Jac left []=JbG left:=by
 unfold Jac; rw [List.length_nil,List.drop_zero]; simp
theorem JmM {x:Nat} (h:x < Jak left):setI left x=setN left x:=by
 unfold setI; rw [Je5,Jaf _ _ (by rw [List.length_map,List.length_range]; exact h),List.getElem_map,List.getElem_range]
theorem JcR {c x:Nat} (h:x < (JbG left).length):JaW f c left (x + 1)=JaW f c left x ++ Jfz f c left (setI left x):=by
 unfold JaW setI; rw [JaV _ [] h,List.flatMap_append]; simp
theorem Jhi {c:Nat} {s:List Int} (h:JdY f c (JaA f s)=false):Jfz f c left s = []:=by unfold Jfz; rw [h]; rfl
theorem Jk9 {c x:Nat} (h:JdY f c (JaA f (setI left x))=true):Jfz f c left (setI left x)=(Jcx f c left x).map (setI left x :: ·):=by unfold Jfz Jcx; rw [if_pos h]
theorem Jgt {c:Nat} (h:c < f.columns.length):JaW f c left (JbG left).length=Jbk f (f.columns.length - c) left:=by
 unfold JaW
 rw [List.take_of_length_le (Nat.le_refl _),show f.columns.length - c=(f.columns.length - (c + 1)) + 1 by omega,Jbk,show f.columns.length - (f.columns.length - (c + 1) + 1)=c by omega]
 rfl
theorem Jou:∀ {a b:List Int},a.length=b.length->(∀ q,q < a.length->a.getD q 0<=b.getD q 0)->Jak a<=Jak b:=by
 intro a
 induction a with
 | nil=>intro b h _; rw [List.eq_nil_of_length_eq_zero h.symm]; exact Nat.le_refl _
 | cons x a iha =>
  intro b h h2
  match b,h,h2 with
  | y :: b,h,h2 =>
   have h0:x<=y:=h2 0 (Nat.succ_pos _)
   exact Nat.mul_le_mul (by omega) (iha (Nat.succ.inj h) (fun q hq=>h2 (q + 1) (Nat.succ_lt_succ hq)))
theorem Jij (hl:GoodLeft f left) {x:Nat} (h:x < Jak left) (hp:Jak left<=30):Jak (Jaq left (setI left x))<=30:=by
 rw [JmM h]
 refine Nat.le_trans (Jou (JbC _ _) fun q hq => ?_) hp
 rw [JbC] at hq
 rw [Jdg hq]
 have:=hl.set h q hq
 omega
theorem pow30 {m:Nat} (h:m<=2):30 ^ m<=900:=by
 have:m=0 ∨ m=1 ∨ m=2:=by omega
 rcases this with rfl | rfl | rfl <;> decide
theorem JfC (hs:Sound f) (hl:GoodLeft f left) (hp:Jak left<=30) {c x:Nat} (hx:x < Jak left):(Jcx f c left x).length<=900:=by
 unfold Jcx
 have hc:=hs.columns
 refine Nat.le_trans (JmK hs _ _ ?_ (Jij hl hx hp)) (pow30 (by omega))
 rw [JmM hx]; exact hl.rest hx
theorem JkZ (hs:Sound f) (hl:GoodLeft f left) (hp:Jak left<=30) (c:Nat):∀ x:Nat,x<=Jak left->(JaW f c left x).length<=x * 900:=by
 intro x
 induction x with
 | zero=>intro _; exact Nat.zero_le _
 | succ x ih =>
  intro h
  rw [JcR (by rw [JfB]; omega),List.length_append]
  have h1:=ih (by omega)
  have h2:(Jfz f c left (setI left x)).length<=900:=by
   cases e:JdY f c (JaA f (setI left x)) with
   | true=>rw [Jk9 e,List.length_map]; exact JfC hs hl hp (by omega)
   | false=>rw [Jhi e]; exact Nat.zero_le _
  omega
theorem JmN:∀ {m:Nat} {left:List Int} {l:List (List Int)},l ∈ Jbk f m left->l.length=m:=by
  intro m
  induction m with
  | zero => intro left l h; have : l = [] := by simpa [Jbk] using h
            rw [this]; rfl
  | succ m ih =>
    intro left l h
    rw [Jbk] at h
    obtain ⟨s,_,h⟩:=List.mem_flatMap.1 h
    split at h
    · obtain ⟨t,ht,rfl⟩:=List.mem_map.1 h
      rw [List.length_cons,ih ht]
    · cases h
theorem Jov (hs:Sound f) {c x k:Nat} (h:k < (Jcx f c left x).length):((Jcx f c left x).getD k []).length<=3:=by
 have hc:=hs.columns
 have:=JmN (Jbc (Jcx f c left x) [] h)
 omega
theorem JfD {c x k:Nat} (h:k < (Jcx f c left x).length):Jbo f c left x (k + 1)=Jbo f c left x k ++ [setI left x :: (Jcx f c left x).getD k []]:=by
 unfold Jbo; rw [JaV _ [] h,List.map_append,← List.append_assoc]; rfl
theorem JfE (c x:Nat):Jbo f c left x 0=JaW f c left x:=by unfold Jbo; simp
theorem Jgu {c x k:Nat} (hx:x < (JbG left).length) (h:(Jcx f c left x).length<=k) (hs:JdY f c (JaA f (setI left x))=true):Jbo f c left x k=JaW f c left (x + 1):=by
 unfold Jbo; rw [List.take_of_length_le h,JcR hx,Jk9 hs]
theorem Jl0 (hs:Sound f) (hl:GoodLeft f left) (hp:Jak left<=30) {c x:Nat} (hx:x < Jak left) (k:Nat):(Jbo f c left x k).length<=27900:=by
 unfold Jbo
 rw [List.length_append,List.length_map,List.length_take]
 have h1:=JkZ hs hl hp c x (by omega)
 have h2:=JfC hs hl hp (c:=c) hx
 omega
theorem Jgv (left s:List Int) (k:Nat):JbZ left s k k=left.getD k 0:=by unfold JbZ; rw [if_neg (Nat.lt_irrefl _)]
theorem JmO {s:List Int} {q:Nat} (h:q < left.length):JbZ left s left.length q=(Jaq left s).getD q 0:=by unfold JbZ; rw [if_pos h,Jdg h]
theorem Jjr (hs:Sound f):Jb9 f 0=fmL (laysA f):=JkW hs
theorem Jl1 (l:List Int) (a:Int):Jak (l ++ [a])=Jak l * (a.toNat + 1):=by
 induction l with
 | nil=>show (a.toNat + 1) * 1=1 * (a.toNat + 1); omega
 | cons x l ih=>show (x.toNat + 1) * Jak (l ++ [a])=(x.toNat + 1) * Jak l * (a.toNat + 1); rw [ih,Nat.mul_assoc]
theorem Jl2 (hs:Sound f):∀ n,n<=f.strips.length->((Jak (Jar f n):Nat):Int)=Jcv f n:=by
 intro n
 induction n with
 | zero=>intro _; rfl
 | succ n ih =>
  intro h
  rw [Jes,Jl1,Je1,← ih (by omega)]
  have:=hs.strip n (by omega)
  have e:(((stp f n).many.toNat:Nat):Int)=(stp f n).many:=by omega
  rw [Int.natCast_mul,Int.natCast_add,e]; rfl
end Go.Sh
namespace Go.En
open Go Go.Ab Go.Sh
def Jow (l:List (List (List Int))):AV := .sl 1 l.length (fun i=>[JaP (l.getD i [])])
end Go.En
namespace Go.Ab
open Go Go.RowKit Go.Proofs Go.Sh Go.En
abbrev rowS3 (l:List (List Int)):OB := .vec 27 1 l.length (fun i=>[Ja6 (l.getD i [])])
abbrev rowL3 (l:List (List (List Int))):OB := .vec 24 1 l.length (fun i=>[JaP (l.getD i [])])
def s49 (left first:List Int):CallSpec:={ args:=[Ja6 left,Ja6 first],res:=JaP (Jac left first),pre:=first.length<=left.length/\left.length<=3 /\ ∀ q,q < left.length->0<=left.getD q 0/\left.getD q 0<=4 }
def h49 (left first:List Int):Hint:={ X:=Nat,M:=fun n=>[(5,.vec 5000),(6,iv n)],H:=fun n=>[(5000,rowS3 (JbQ left first n))],I:=fun n=>n<=(left.getD first.length 0).toNat + 1,mu:=fun n=>(left.getD first.length 0).toNat + 1 - n,x0:=(0:Nat),nx:=fun n=>n + 1 }
def c49 (left first:List Int) (n:Nat):CallSpec:=s49 left (first ++ [(n:Int)])
def s32 (f:Frm) (c:Nat) (left:List Int):CallSpec:={ args:=[vFrm f,iv c,Ja6 left],res:=Jow (Jbk f (f.columns.length - c) left),pre:=Sound f/\c<=f.columns.length/\GoodLeft f left/\Jak left<=30 }
def h32a (f:Frm) (c:Nat) (left:List Int):Hint:={ X:=Nat,M:=fun i=>[(7,.vec 5000),(9,iv i)],H:=fun i=>[(5000,rowL3 (JaW f c left i))],I:=fun i=>i<=(JbG left).length,mu:=fun i=>(JbG left).length - i,x0:=(0:Nat),nx:=fun i=>i + 1 }
def h32b (f:Frm) (c:Nat) (left:List Int) (x:Nat):Hint:={ X:=Nat,M:=fun k=>[(10,.vec 5001),(11,iv k)],H:=fun k=>[(5001,.vec 3 1 left.length (fun q=>[iv (JbZ left (setI left x) k q)]))],I:=fun k=>k<=left.length,mu:=fun k=>left.length - k,x0:=(0:Nat),nx:=fun k=>k + 1 }
def h32c (f:Frm) (c:Nat) (left:List Int) (x:Nat):Hint:={ X:=Nat,M:=fun k=>[(7,.vec 5002),(13,iv k)],H:=fun k=>[(5002,rowL3 (Jbo f c left x k))],I:=fun k=>k<=(Jcx f c left x).length,mu:=fun k=>(Jcx f c left x).length - k,x0:=(0:Nat),nx:=fun k=>k + 1 }
def c32z:CallSpec:={ args:=[JaP []],res := .any }
def c32s (f:Frm) (c:Nat) (left:List Int):CallSpec:=s49 left []
def c32p (f:Frm) (c:Nat) (left:List Int) (x:Nat):CallSpec:=s51 f (setI left x)
def c32r (f:Frm) (c:Nat) (left:List Int) (x:Nat):CallSpec:=s32 f (c + 1) (Jaq left (setI left x))
end Go.Ab
namespace Go.Ab
open Go Go.RowKit Go.Proofs Go.Sh Go.En
abbrev q3w (left:List Int) (first:List Int) (Pq:Prop):Prop:=(first.length<=left.length/\left.length<=3 /\ ∀ (q:Nat),q < left.length->0<=left.getD q 0/\left.getD q 0<=4)->Pq
abbrev q3x (left:List Int) (first:List Int) (Pq:Prop):Prop:=q3w left first (decide ((↑(first.length):Int)=(↑(left.length):Int))=false->Pq)
abbrev q3y (left:List Int) (first:List Int) (x3:Nat) (Pq:Prop):Prop:=x3<=(left.getD first.length 0).toNat + 1->Pq
abbrev q3z (left:List Int) (first:List Int) (x3:Nat) (Pq:Prop):Prop:=q3y left first x3 (decide ((x3:Int)<=left.getD first.length 0)=true->Pq)
theorem w49 (left:List Int) (first:List Int)
 (o0:q3w left first (decide ((↑(first.length):Int)=(↑(left.length):Int))=true->1=(Jac left first).length))
 (o1:q3w left first (decide ((↑(first.length):Int)=(↑(left.length):Int))=true -> ∀ (i1:Nat),i1 < (Jac left first).length->List.getD [[AV.sl 1 first.length fun (i:Nat)=>[iv (first.getD i 0)]]] i1 (TI.za ti27) = [Ja6 ((Jac left first).getD i1 [])]))
 (o2:q3x left first (0=(↑0:Int)))
 (o3:q3x left first ((JbQ left first 0).length=0))
 (o4:q3x left first (0<=(left.getD first.length 0).toNat + 1))
 (o5:q3x left first (∀ (x3:Nat),q3y left first x3 (0<=(↑(first.length):Int))))
 (o6:q3x left first (∀ (x3:Nat),q3y left first x3 ((↑(first.length):Int) < (↑(left.length):Int))))
 (o7:q3x left first (∀ (x3:Nat),q3z left first x3 (0 + first.length<=65536)))
 (o8:q3x left first (∀ (x3:Nat),q3z left first x3 (0 + first.length + 1<=65536)))
 (o9:q3x left first (∀ (x3:Nat),q3z left first x3 (0 + first.length + 1=(first ++ [(x3:Int)]).length)))
 (o10:q3x left first (∀ (x3:Nat),q3z left first x3 (∀ (i5:Nat),i5 < (first ++ [(x3:Int)]).length->catF (0 + first.length) (fun (i:Nat)=>[iv (first.getD i 0)]) (fun (j:Nat)=>List.getD [[iv (x3:Int)]] j (TI.za ti3)) i5 = [iv ((first ++ [(x3:Int)]).getD i5 0)])))
 (o11:q3x left first (∀ (x3:Nat),q3z left first x3 (Ja4 Tryz.prog 49 (c49 left first x3))))
 (o12:q3x left first (∀ (x3:Nat),q3z left first x3 ((first ++ [(x3:Int)]).length<=left.length)))
 (o13:q3x left first (∀ (x3:Nat),q3z left first x3 (left.length<=3)))
 (o14:q3x left first (∀ (x3:Nat),q3z left first x3 (∀ (i7:Nat),i7 < left.length->0<=left.getD i7 0)))
 (o15:q3x left first (∀ (x3:Nat),q3z left first x3 (∀ (i7:Nat),i7 < left.length->left.getD i7 0<=4)))
 (o16:q3x left first (∀ (x3:Nat),q3z left first x3 ((JbQ left first x3).length + (Jac left (first ++ [(x3:Int)])).length<=65536)))
 (o17:q3x left first (∀ (x3:Nat),q3z left first x3 (inI ((x3:Int) + 1))))
 (o18:q3x left first (∀ (x3:Nat),q3z left first x3 ((x3:Int) + 1=(↑(x3 + 1):Int))))
 (o19:q3x left first (∀ (x3:Nat),q3z left first x3 ((JbQ left first x3).length + (Jac left (first ++ [(x3:Int)])).length=(JbQ left first (x3 + 1)).length)))
 (o20:q3x left first (∀ (x3:Nat),q3z left first x3 (∀ (i10:Nat),i10 < (JbQ left first x3).length + (Jac left (first ++ [(x3:Int)])).length->catF (JbQ left first x3).length (fun (i:Nat)=>[Ja6 ((JbQ left first x3).getD i [])]) (fun (i:Nat)=>[Ja6 ((Jac left (first ++ [(x3:Int)])).getD i [])]) i10 = [Ja6 ((JbQ left first (x3 + 1)).getD i10 [])])))
 (o21:q3x left first (∀ (x3:Nat),q3z left first x3 (x3 + 1<=(left.getD first.length 0).toNat + 1)))
 (o22:q3x left first (∀ (x3:Nat),q3z left first x3 ((left.getD first.length 0).toNat + 1 - (x3 + 1) < (left.getD first.length 0).toNat + 1 - x3)))
 (o23:q3x left first (∀ (x3:Nat),q3y left first x3 (decide ((x3:Int)<=left.getD first.length 0)=false->(JbQ left first x3).length=(Jac left first).length)))
 (o24:q3x left first (∀ (x3:Nat),q3y left first x3 (decide ((x3:Int)<=left.getD first.length 0)=false -> ∀ (i12:Nat),i12 < (Jac left first).length -> [Ja6 ((JbQ left first x3).getD i12 [])] = [Ja6 ((Jac left first).getD i12 [])]))) :
  Ja4 Tryz.prog 49 (s49 left first):=by
 refine Ja7 Tryz.func49 rfl Tryz.call49 Jaw _ rfl rfl rfl rfl (Nat.le_of_ble_eq_true (by kernel_rfl)) (fun _ _ _ _ h=>h) ?_
 intro hpre C hC _ hE
 obtain ⟨P,w0,E0,av,hA,ro,df⟩:=C
 obtain ⟨rfl,rfl,rfl⟩:=hC
 refine Ja0 ?_
 refine zR [0,1] [] (Ak 1 tv) ?_
 refine Ja0 ?_
 refine Ja0 ?_
 refine zR [0,1,11] [] (Ak 5 tv) ?_
 refine zI (decide ((↑(first.length):Int)=(↑(left.length):Int))) (fun y0 => ?_) (fun y0 => ?_)
 ·refine Ja0 ?_
  refine zR [4] [56] (Ak 3 tv) ?_
  refine Ja5 ?_
  exact zT [56] (An (Ak 1 tv) (An (An (zr 1) (An (o0 hpre y0) (fun (i1:Nat)=>(fun (y2:i1 < (Jac left first).length)=>(o1 hpre y0 i1 y2))))) (An (zr true) (An (zr true) (zr true)))))
 ·refine Ja3 ?_
  refine Ja0 ?_
  refine zR [0,1,5] [] (Ak 1 tv) ?_
  refine Ja0 ?_
  refine Ja0 ?_
  refine zR [0,1,5,6] [] (Ak 1 tv) ?_
  refine Ja2 ?_
  refine zL (Hint.ann (h49 left first) [(0,Ja6 left),(1,Ja6 first)] [] 10064) (zE hE [] [(5000,.nil)] [0,1] [] (An (An (An (zr (Ja6 left)) (zr true)) (An (An (zr (Ja6 first)) (zr true)) (An (zr (some Src.nil)) (An (An (ci (o2 hpre y0)) (zr nilN)) tv)))) (An (An (o3 hpre y0) tv) (An (zr true) (zr true))))) (o4 hpre y0) (fun (x3:Nat) hx3 => ?_)
  refine Ja0 ?_
  refine Ja0 ?_
  refine zR [0,1,5,6,20] [5000] (Ak 4 (An (An (o5 hpre y0 x3 hx3) (o6 hpre y0 x3 hx3)) (Ak 2 tv))) ?_
  refine zI (decide ((x3:Int)<=left.getD first.length 0)) (fun y4 => ?_) (fun y4 => ?_)
  ·refine Ja3 ?_
   refine Ja0 ?_
   refine Ja2 ?_
   refine zC ([(8,CallSpec.eq (c49 left first x3) [true,false])]) [0,1,5,6] [10192] (Ak 4 (An (o7 hpre y0 x3 hx3 y4) (Ak 2 (An (o8 hpre y0 x3 hx3 y4) (An (An (An (zr (Ja6 left)) (An (An (zr 1) (An (o9 hpre y0 x3 hx3 y4) (fun (i5:Nat)=>(fun (y6:i5 < (first ++ [(x3:Int)]).length)=>(o10 hpre y0 x3 hx3 y4 i5 y6))))) tv)) (An (o11 hpre y0 x3 hx3 y4) (An (An (o12 hpre y0 x3 hx3 y4) (An (o13 hpre y0 x3 hx3 y4) (fun (i7:Nat)=>(fun (y8:i7 < left.length)=>(An (o14 hpre y0 x3 hx3 y4 i7 y8) (o15 hpre y0 x3 hx3 y4 i7 y8)))))) (Ak 1 (fun (i9:Env)=>tv))))) (An (o16 hpre y0 x3 hx3 y4) (Ak 1 tv))))))) ?_
   refine zR [0,1,5,6] [10192] (Ak 1 (An (o17 hpre y0 x3 hx3 y4) (Ak 1 tv))) ?_
   exact zn (zE hE [] [(5000,.same 10192)] [0,1] [] (An (An (An (zr (Ja6 left)) (zr true)) (An (An (zr (Ja6 first)) (zr true)) (An (zr (some (Src.same 10192))) (An (An (ci (o18 hpre y0 x3 hx3 y4)) (zr nilN)) tv)))) (An (An (An (zr 27) (An (zr 1) (An (o19 hpre y0 x3 hx3 y4) (fun (i10:Nat)=>(fun (y11:i10 < (JbQ left first x3).length + (Jac left (first ++ [(x3:Int)])).length)=>(o20 hpre y0 x3 hx3 y4 i10 y11)))))) tv) (An (zr true) (zr true))))) (o21 hpre y0 x3 hx3 y4) (o22 hpre y0 x3 hx3 y4)
  ·refine Jaa ?_
   refine Ja0 ?_
   refine zR [4] [5000] (Ak 2 tv) ?_
   refine Ja5 ?_
   exact zT [5000] (An (Ak 1 tv) (An (An (zr 1) (An (o23 hpre y0 x3 hx3 y4) (fun (i12:Nat)=>(fun (y13:i12 < (Jac left first).length)=>(o24 hpre y0 x3 hx3 y4 i12 y13))))) (An (zr true) (An (zr true) (zr true)))))
theorem t49 (left first:List Int):Ja4 Tryz.prog 49 (s49 left first):=by
 have key:∀ (k:Nat) (first:List Int),left.length - first.length<=k->Ja4 Tryz.prog 49 (s49 left first):=by
  intro k
  induction k with
  | zero =>
   intro first hk
   apply w49
   all_goals (try delta q3w q3x q3y q3z)
   all_goals (rintro ⟨h1,h2,h3⟩; have he:first.length=left.length:=by omega)
   case o0=>intro _; rw [Jc6 he]; rfl
   case o1 =>
    intro _ i hi
    rw [Jc6 he] at hi ⊢
    have:i=0:=by simpa using hi
    subst this; rfl
   all_goals (intro h; exact absurd (by omega) (of_decide_eq_false h))
  | succ k ih =>
   intro first hk
   apply w49
   all_goals (try delta q3w q3x q3y q3z)
   all_goals (rintro ⟨h1,h2,h3⟩)
   case o0=>intro h; rw [Jc6 (by have:=of_decide_eq_true h; omega)]; rfl
   case o1 =>
    intro h i hi
    rw [Jc6 (by have:=of_decide_eq_true h; omega)] at hi ⊢
    have:i=0:=by simpa using hi
    subst this; rfl
   all_goals (intro h; have he:first.length < left.length:=(by have:=of_decide_eq_false h; omega))
   case o2 | o3=>rfl
   case o4=>omega
   all_goals (have hb:=fun q hq=>(h3 q hq).2; have hlk:=h3 _ he)
   all_goals (intro x hx)
   case o5 | o6=>omega
   all_goals (intro hl; simp only [decide_eq_true_eq,decide_eq_false_iff_not] at hl)
   case o9=>rw [List.length_append,List.length_singleton]; omega
   case o10=>intro i hi; rw [List.length_append,List.length_singleton] at hi; exact Jc4 first _ 0 (fun z=>[iv z]) (Nat.zero_add _) (fun _ _=>rfl) rfl hi
   case o11=>exact ih _ (by rw [List.length_append,List.length_singleton]; omega)
   case o12=>rw [List.length_append,List.length_singleton]; omega
   case o14=>intro q hq; exact (h3 q hq).1
   case o15=>intro q hq; exact hb q hq
   case o16=>have a:=JkY h2 hb first x; have b:=JeB h2 hb (first ++ [(x:Int)]); omega
   case o19=>rw [JfA,List.length_append]
   case o20=>intro i hi; rw [JfA]; exact Jmk _ _ [] (fun z=>[Ja6 z]) rfl (fun _ _=>rfl) (fun _ _=>rfl) hi
   case o23=>rw [show x=(left.getD first.length 0).toNat + 1 by omega,Jgs he]
   case o24=>intro i hi; rw [show x=(left.getD first.length 0).toNat + 1 by omega,Jgs he]
   all_goals (first | omega | (simp only [inI]; omega))
 exact key _ first (Nat.le_refl _)
abbrev q40 (f:Frm) (c:Nat) (left:List Int) (Pq:Prop):Prop:=Sound f/\c<=f.columns.length/\GoodLeft f left/\Jak left<=30->Pq
abbrev q41 (f:Frm) (c:Nat) (left:List Int) (Pq:Prop):Prop:=q40 f c left (decide ((c:Int)=(↑(f.columns.length):Int))=false->Pq)
abbrev q42 (left:List Int) (x10:Nat) (Pq:Prop):Prop:=x10<=(JbG left).length->Pq
abbrev q43 (left:List Int) (x10:Nat) (Pq:Prop):Prop:=q42 left x10 (decide ((x10:Int) < (↑((Jac left []).length):Int))=true->Pq)
abbrev q44 (f:Frm) (c:Nat) (left:List Int) (x10:Nat) (Pq:Prop):Prop:=q43 left x10 ((!JdY f c (JaA f (setI left x10)))=true->Pq)
abbrev q45 (f:Frm) (c:Nat) (left:List Int) (x10:Nat) (Pq:Prop):Prop:=q43 left x10 ((!JdY f c (JaA f (setI left x10)))=false->Pq)
abbrev q46 (left:List Int) (x19:Nat) (Pq:Prop):Prop:=x19<=left.length->Pq
abbrev q47 (left:List Int) (x19:Nat) (Pq:Prop):Prop:=q46 left x19 (decide ((x19:Int) < (↑(left.length):Int))=true->Pq)
abbrev q48 (left:List Int) (x19:Nat) (Pq:Prop):Prop:=q46 left x19 (decide ((x19:Int) < (↑(left.length):Int))=false->Pq)
abbrev q49 (f:Frm) (c:Nat) (left:List Int) (x10:Nat) (x30:Nat) (Pq:Prop):Prop:=x30<=(Jcx f c left x10).length->Pq
abbrev q4a (f:Frm) (c:Nat) (left:List Int) (x10:Nat) (x30:Nat) (Pq:Prop):Prop:=q49 f c left x10 x30 (decide ((x30:Int) < (↑((Jbk f (f.columns.length - (c + 1)) (Jaq left (setI left x10))).length):Int))=true->Pq)
abbrev q4b (f:Frm) (c:Nat) (left:List Int) (x10:Nat) (x30:Nat) (Pq:Prop):Prop:=q49 f c left x10 x30 (decide ((x30:Int) < (↑((Jbk f (f.columns.length - (c + 1)) (Jaq left (setI left x10))).length):Int))=false->Pq)
theorem w32 (f:Frm) (c:Nat) (left:List Int)
 (o0:q40 f c left (decide ((c:Int)=(↑(f.columns.length):Int))=true -> ∀ (i1:Env) (i2:Bool) (i3:Value),Rel i1 i2 nilv i3->Rel i1 i2 (JaP []) i3))
 (o1:q40 f c left (decide ((c:Int)=(↑(f.columns.length):Int))=true->1=(Jbk f (f.columns.length - c) left).length))
 (o2:q40 f c left (decide ((c:Int)=(↑(f.columns.length):Int))=true -> ∀ (i5:Nat),i5 < (Jbk f (f.columns.length - c) left).length->List.getD [[AV.sl 1 0 fun (i:Nat)=>[Ja6 (List.getD [] i [])]]] i5 (TI.za ti24) = [JaP ((Jbk f (f.columns.length - c) left).getD i5 [])]))
 (o3:q41 f c left (0<=left.length))
 (o4:q41 f c left (left.length<=3))
 (o5:q41 f c left (∀ (i7:Nat),i7 < left.length->0<=left.getD i7 0))
 (o6:q41 f c left (∀ (i7:Nat),i7 < left.length->left.getD i7 0<=4))
 (o7:q41 f c left (0=(↑0:Int)))
 (o8:q41 f c left ((JaW f c left 0).length=0))
 (o9:q41 f c left (0<=(JbG left).length))
 (o10:q41 f c left (∀ (x10:Nat),q43 left x10 (0<=(x10:Int))))
 (o11:q41 f c left (∀ (x10:Nat),q43 left x10 ((x10:Int) < (↑((Jac left []).length):Int))))
 (o12:q41 f c left (∀ (x10:Nat),q43 left x10 (((Jac left []).getD x10 []).length=(setI left x10).length)))
 (o13:q41 f c left (∀ (x10:Nat),q43 left x10 (∀ (i12:Nat),i12 < (setI left x10).length -> [iv (((Jac left []).getD x10 []).getD i12 0)] = [iv ((setI left x10).getD i12 0)])))
 (o14:q41 f c left (∀ (x10:Nat),q43 left x10 (isSet f (setI left x10)=true)))
 (o15:q41 f c left (∀ (x10:Nat),q43 left x10 (c < f.columns.length)))
 (o16:q41 f c left (∀ (x10:Nat),q43 left x10 (-1000<=JaA f (setI left x10))))
 (o17:q41 f c left (∀ (x10:Nat),q43 left x10 (JaA f (setI left x10)<=1000)))
 (o18:q41 f c left (∀ (x10:Nat),q44 f c left x10 (inI ((x10:Int) + 1))))
 (o19:q41 f c left (∀ (x10:Nat),q44 f c left x10 ((x10:Int) + 1=(↑(x10 + 1):Int))))
 (o20:q41 f c left (∀ (x10:Nat),q44 f c left x10 ((JaW f c left x10).length=(JaW f c left (x10 + 1)).length)))
 (o21:q41 f c left (∀ (x10:Nat),q44 f c left x10 (∀ (i17:Nat),i17 < (JaW f c left x10).length -> [JaP ((JaW f c left x10).getD i17 [])] = [JaP ((JaW f c left (x10 + 1)).getD i17 [])])))
 (o22:q41 f c left (∀ (x10:Nat),q44 f c left x10 (x10 + 1<=(JbG left).length)))
 (o23:q41 f c left (∀ (x10:Nat),q44 f c left x10 ((JbG left).length - (x10 + 1) < (JbG left).length - x10)))
 (o24:q41 f c left (∀ (x10:Nat),q45 f c left x10 (0 + left.length<=65536)))
 (o25:q41 f c left (∀ (x10:Nat),q45 f c left x10 (0=(↑0:Int))))
 (o26:q41 f c left (∀ (x10:Nat),q45 f c left x10 (0 + left.length=left.length)))
 (o27:q41 f c left (∀ (x10:Nat),q45 f c left x10 (∀ (i20:Nat),i20 < 0 + left.length -> [iv (left.getD i20 0)] = [iv (JbZ left (setI left x10) 0 i20)])))
 (o28:q41 f c left (∀ (x10:Nat),q45 f c left x10 (0<=left.length)))
 (o29:q41 f c left (∀ (x10:Nat),q45 f c left x10 (∀ (x19:Nat),q47 left x19 (0<=(x19:Int)))))
 (o30:q41 f c left (∀ (x10:Nat),q45 f c left x10 (∀ (x19:Nat),q47 left x19 ((x19:Int) < (↑(left.length):Int)))))
 (o31:q41 f c left (∀ (x10:Nat),q45 f c left x10 (∀ (x19:Nat),q47 left x19 (x19 < left.length))))
 (o32:q41 f c left (∀ (x10:Nat),q45 f c left x10 (∀ (x19:Nat),q47 left x19 (0<=(x10:Int)))))
 (o33:q41 f c left (∀ (x10:Nat),q45 f c left x10 (∀ (x19:Nat),q47 left x19 ((x10:Int) < (↑((Jac left []).length):Int)))))
 (o34:q41 f c left (∀ (x10:Nat),q45 f c left x10 (∀ (x19:Nat),q47 left x19 (0<=(x19:Int)))))
 (o35:q41 f c left (∀ (x10:Nat),q45 f c left x10 (∀ (x19:Nat),q47 left x19 ((x19:Int) < (↑(((Jac left []).getD x10 []).length):Int)))))
 (o36:q41 f c left (∀ (x10:Nat),q45 f c left x10 (∀ (x19:Nat),q47 left x19 (inI (JbZ left (setI left x10) x19 x19 - ((Jac left []).getD x10 []).getD x19 0)))))
 (o37:q41 f c left (∀ (x10:Nat),q45 f c left x10 (∀ (x19:Nat),q47 left x19 (0<=(x19:Int)))))
 (o38:q41 f c left (∀ (x10:Nat),q45 f c left x10 (∀ (x19:Nat),q47 left x19 ((x19:Int) < (↑(left.length):Int)))))
 (o39:q41 f c left (∀ (x10:Nat),q45 f c left x10 (∀ (x19:Nat),q47 left x19 (x19 < left.length))))
 (o40:q41 f c left (∀ (x10:Nat),q45 f c left x10 (∀ (x19:Nat),q47 left x19 (inI ((x19:Int) + 1)))))
 (o41:q41 f c left (∀ (x10:Nat),q45 f c left x10 (∀ (x19:Nat),q47 left x19 ((x19:Int) + 1=(↑(x19 + 1):Int)))))
 (o42:q41 f c left (∀ (x10:Nat),q45 f c left x10 (∀ (x19:Nat),q47 left x19 (∀ (i23:Nat),i23 < left.length->Decidable.rec (fun (h:¬i23=x19)=>[iv (JbZ left (setI left x10) x19 i23)]) (fun (h:i23=x19)=>[iv (JbZ left (setI left x10) x19 x19 - ((Jac left []).getD x10 []).getD x19 0)] ++ []) (instDecidableEqNat i23 x19) = [iv (JbZ left (setI left x10) (x19 + 1) i23)]))))
 (o43:q41 f c left (∀ (x10:Nat),q45 f c left x10 (∀ (x19:Nat),q47 left x19 (x19 + 1<=left.length))))
 (o44:q41 f c left (∀ (x10:Nat),q45 f c left x10 (∀ (x19:Nat),q47 left x19 (left.length - (x19 + 1) < left.length - x19))))
 (o45:q41 f c left (∀ (x10:Nat),q45 f c left x10 (∀ (x19:Nat),q48 left x19 (inI ((c:Int) + 1)))))
 (o46:q41 f c left (∀ (x10:Nat),q45 f c left x10 (∀ (x19:Nat),q48 left x19 ((c:Int) + 1=(↑(c + 1):Int)))))
 (o47:q41 f c left (∀ (x10:Nat),q45 f c left x10 (∀ (x19:Nat),q48 left x19 (left.length=(Jaq left (setI left x10)).length))))
 (o48:q41 f c left (∀ (x10:Nat),q45 f c left x10 (∀ (x19:Nat),q48 left x19 (∀ (i27:Nat),i27 < (Jaq left (setI left x10)).length -> [iv (JbZ left (setI left x10) x19 i27)] = [iv ((Jaq left (setI left x10)).getD i27 0)]))))
 (o49:q41 f c left (∀ (x10:Nat),q45 f c left x10 (∀ (x19:Nat),q48 left x19 (Ja4 Tryz.prog 32 (c32r f c left x10)))))
 (o50:q41 f c left (∀ (x10:Nat),q45 f c left x10 (∀ (x19:Nat),q48 left x19 (c + 1<=f.columns.length))))
 (o51:q41 f c left (∀ (x10:Nat),q45 f c left x10 (∀ (x19:Nat),q48 left x19 (GoodLeft f (Jaq left (setI left x10))))))
 (o52:q41 f c left (∀ (x10:Nat),q45 f c left x10 (∀ (x19:Nat),q48 left x19 (Jak (Jaq left (setI left x10))<=30))))
 (o53:q41 f c left (∀ (x10:Nat),q45 f c left x10 (∀ (x19:Nat),q48 left x19 (0=(↑0:Int)))))
 (o54:q41 f c left (∀ (x10:Nat),q45 f c left x10 (∀ (x19:Nat),q48 left x19 ((JaW f c left x10).length=(Jbo f c left x10 0).length))))
 (o55:q41 f c left (∀ (x10:Nat),q45 f c left x10 (∀ (x19:Nat),q48 left x19 (∀ (i31:Nat),i31 < (JaW f c left x10).length -> [JaP ((JaW f c left x10).getD i31 [])] = [JaP ((Jbo f c left x10 0).getD i31 [])]))))
 (o56:q41 f c left (∀ (x10:Nat),q45 f c left x10 (∀ (x19:Nat),q48 left x19 (0<=(Jcx f c left x10).length))))
 (o57:q41 f c left (∀ (x10:Nat),q45 f c left x10 (∀ (x19:Nat),q48 left x19 (∀ (x30:Nat),q4a f c left x10 x30 (0<=(x10:Int))))))
 (o58:q41 f c left (∀ (x10:Nat),q45 f c left x10 (∀ (x19:Nat),q48 left x19 (∀ (x30:Nat),q4a f c left x10 x30 ((x10:Int) < (↑((Jac left []).length):Int))))))
 (o59:q41 f c left (∀ (x10:Nat),q45 f c left x10 (∀ (x19:Nat),q48 left x19 (∀ (x30:Nat),q4a f c left x10 x30 (0<=(x30:Int))))))
 (o60:q41 f c left (∀ (x10:Nat),q45 f c left x10 (∀ (x19:Nat),q48 left x19 (∀ (x30:Nat),q4a f c left x10 x30 ((x30:Int) < (↑((Jbk f (f.columns.length - (c + 1)) (Jaq left (setI left x10))).length):Int))))))
 (o61:q41 f c left (∀ (x10:Nat),q45 f c left x10 (∀ (x19:Nat),q48 left x19 (∀ (x30:Nat),q4a f c left x10 x30 (1 + ((Jbk f (f.columns.length - (c + 1)) (Jaq left (setI left x10))).getD x30 []).length<=65536)))))
 (o62:q41 f c left (∀ (x10:Nat),q45 f c left x10 (∀ (x19:Nat),q48 left x19 (∀ (x30:Nat),q4a f c left x10 x30 ((Jbo f c left x10 x30).length + 1<=65536)))))
 (o63:q41 f c left (∀ (x10:Nat),q45 f c left x10 (∀ (x19:Nat),q48 left x19 (∀ (x30:Nat),q4a f c left x10 x30 (inI ((x30:Int) + 1))))))
 (o64:q41 f c left (∀ (x10:Nat),q45 f c left x10 (∀ (x19:Nat),q48 left x19 (∀ (x30:Nat),q4a f c left x10 x30 ((x30:Int) + 1=(↑(x30 + 1):Int))))))
 (o65:q41 f c left (∀ (x10:Nat),q45 f c left x10 (∀ (x19:Nat),q48 left x19 (∀ (x30:Nat),q4a f c left x10 x30 ((Jbo f c left x10 x30).length + 1=(Jbo f c left x10 (x30 + 1)).length)))))
 (o66:q41 f c left (∀ (x10:Nat),q45 f c left x10 (∀ (x19:Nat),q48 left x19 (∀ (x30:Nat),q4a f c left x10 x30 (∀ (i34:Nat),i34 < (Jbo f c left x10 x30).length + 1->catF (Jbo f c left x10 x30).length (fun (i:Nat)=>[JaP ((Jbo f c left x10 x30).getD i [])]) (fun (j:Nat)=>List.getD [[AV.sl 1 (1 + ((Jbk f (f.columns.length - (c + 1)) (Jaq left (setI left x10))).getD x30 []).length) (catF 1 (fun (j:Nat)=>List.getD [[AV.sl 1 ((Jac left []).getD x10 []).length fun (i:Nat)=>[iv (((Jac left []).getD x10 []).getD i 0)]]] j (TI.za ti27)) fun (i:Nat)=>[Ja6 (((Jbk f (f.columns.length - (c + 1)) (Jaq left (setI left x10))).getD x30 []).getD i [])])]] j (TI.za ti24)) i34 = [JaP ((Jbo f c left x10 (x30 + 1)).getD i34 [])])))))
 (o67:q41 f c left (∀ (x10:Nat),q45 f c left x10 (∀ (x19:Nat),q48 left x19 (∀ (x30:Nat),q4a f c left x10 x30 (x30 + 1<=(Jcx f c left x10).length)))))
 (o68:q41 f c left (∀ (x10:Nat),q45 f c left x10 (∀ (x19:Nat),q48 left x19 (∀ (x30:Nat),q4a f c left x10 x30 ((Jcx f c left x10).length - (x30 + 1) < (Jcx f c left x10).length - x30)))))
 (o69:q41 f c left (∀ (x10:Nat),q45 f c left x10 (∀ (x19:Nat),q48 left x19 (∀ (x30:Nat),q4b f c left x10 x30 (inI ((x10:Int) + 1))))))
 (o70:q41 f c left (∀ (x10:Nat),q45 f c left x10 (∀ (x19:Nat),q48 left x19 (∀ (x30:Nat),q4b f c left x10 x30 ((x10:Int) + 1=(↑(x10 + 1):Int))))))
 (o71:q41 f c left (∀ (x10:Nat),q45 f c left x10 (∀ (x19:Nat),q48 left x19 (∀ (x30:Nat),q4b f c left x10 x30 ((Jbo f c left x10 x30).length=(JaW f c left (x10 + 1)).length)))))
 (o72:q41 f c left (∀ (x10:Nat),q45 f c left x10 (∀ (x19:Nat),q48 left x19 (∀ (x30:Nat),q4b f c left x10 x30 (∀ (i36:Nat),i36 < (Jbo f c left x10 x30).length -> [JaP ((Jbo f c left x10 x30).getD i36 [])] = [JaP ((JaW f c left (x10 + 1)).getD i36 [])])))))
 (o73:q41 f c left (∀ (x10:Nat),q45 f c left x10 (∀ (x19:Nat),q48 left x19 (∀ (x30:Nat),q4b f c left x10 x30 (x10 + 1<=(JbG left).length)))))
 (o74:q41 f c left (∀ (x10:Nat),q45 f c left x10 (∀ (x19:Nat),q48 left x19 (∀ (x30:Nat),q4b f c left x10 x30 ((JbG left).length - (x10 + 1) < (JbG left).length - x10)))))
 (o75:q41 f c left (∀ (x10:Nat),q42 left x10 (decide ((x10:Int) < (↑((Jac left []).length):Int))=false->(JaW f c left x10).length=(Jbk f (f.columns.length - c) left).length)))
 (o76:q41 f c left (∀ (x10:Nat),q42 left x10 (decide ((x10:Int) < (↑((Jac left []).length):Int))=false -> ∀ (i38:Nat),i38 < (Jbk f (f.columns.length - c) left).length -> [JaP ((JaW f c left x10).getD i38 [])] = [JaP ((Jbk f (f.columns.length - c) left).getD i38 [])]))) :
  Ja4 Tryz.prog 32 (s32 f c left):=by
 refine Ja7 Tryz.func32 rfl Tryz.call32 Jaw _ rfl rfl rfl rfl (Nat.le_of_ble_eq_true (by kernel_rfl)) (fun _ _ _ _ h=>h) ?_
 intro hpre C hC _ hE
 obtain ⟨P,w0,E0,av,hA,ro,df⟩:=C
 obtain ⟨rfl,rfl,rfl⟩:=hC
 refine Ja0 ?_
 refine zR [1,2,3] [0] (Ak 2 tv) ?_
 refine Ja0 ?_
 refine Ja0 ?_
 refine zR [1,2,3,18] [0] (Ak 5 tv) ?_
 refine zI (decide ((c:Int)=(↑(f.columns.length):Int))) (fun y0 => ?_) (fun y0 => ?_)
 ·refine Ja0 ?_
  refine zC ([(0,c32z)]) [6] [56] (An (An (An (fun (i1:Env)=>(fun (i2:Bool)=>(fun (i3:Value)=>(fun (y4:Rel i1 i2 nilv i3)=>(o0 hpre y0 i1 i2 i3 y4))))) tv) tv) (Ak 1 tv)) ?_
  refine Ja5 ?_
  exact zT [56] (An (Ak 1 tv) (An (An (zr 1) (An (o1 hpre y0) (fun (i5:Nat)=>(fun (y6:i5 < (Jbk f (f.columns.length - c) left).length)=>(o2 hpre y0 i5 y6))))) (An (zr true) (An (zr true) (zr true)))))
 ·refine Ja3 ?_
  refine Ja0 ?_
  refine zR [1,2,3,7] [0] (Ak 1 tv) ?_
  refine Ja0 ?_
  refine zC ([(1,CallSpec.eq (c32s f c left) [true,false])]) [1,2,3,7,8] [0] (Ak 1 (An (An (An (zr (Ja6 left)) (An (zr 0) tv)) (An (t49 (left) ([])) (An (An (o3 hpre y0) (An (o4 hpre y0) (fun (i7:Nat)=>(fun (y8:i7 < left.length)=>(An (o5 hpre y0 i7 y8) (o6 hpre y0 i7 y8)))))) (Ak 1 (fun (i9:Env)=>tv))))) (Ak 1 tv))) ?_
  refine Ja0 ?_
  refine Ja0 ?_
  refine zR [1,2,3,7,8,9] [0] (Ak 1 tv) ?_
  refine Ja2 ?_
  refine zL (Hint.ann (h32a f c left) [(1,iv (c:Int)),(2,Ja6 left),(3,AV.ptr 0 []),(8,JaP (Jac left []))] [(0,OB.cells 26 (cFrm f))] 10096) (zE hE [] [(0,.same 0),(5000,.nil)] [1,2,8] [0] (An (An (An (zr (iv (c:Int))) (zr true)) (An (An (zr (Ja6 left)) (zr true)) (An (An (zr (some (Src.same 0))) (zr nilP)) (An (An (zr (JaP (Jac left []))) (zr true)) (An (zr (some Src.nil)) (An (An (ci (o7 hpre y0)) (zr nilN)) tv)))))) (An (An (An (zr (OB.cells 26 (cFrm f))) (zr true)) (An (o8 hpre y0) tv)) (An (zr true) (zr true))))) (o9 hpre y0) (fun (x10:Nat) hx10 => ?_)
  refine Ja0 ?_
  refine Ja0 ?_
  refine zR [1,2,3,8,7,9,25] [0,5000] (Ak 4 tv) ?_
  refine zI (decide ((x10:Int) < (↑((Jac left []).length):Int))) (fun y11 => ?_) (fun y11 => ?_)
  ·refine Ja3 ?_
   refine Ja0 ?_
   refine Ja2 ?_
   refine Ja0 ?_
   refine Ja0 ?_
   refine zC ([(7,CallSpec.eq (c32p f c left x10) [true,false]),(8,CallSpec.eq (s50 f c (JaA f (setI left x10))) [true,true,true])]) [1,2,3,8,7,9,37] [0,5000] (Ak 5 (An (An (o10 hpre y0 x10 hx10 y11) (o11 hpre y0 x10 hx10 y11)) (Ak 1 (An (An (An (zr (AV.agg (cFrm f))) (An (An (zr 1) (An (o12 hpre y0 x10 hx10 y11) (fun (i12:Nat)=>(fun (y13:i12 < (setI left x10).length)=>(o13 hpre y0 x10 hx10 y11 i12 y13))))) tv)) (An (t51 (f) (setI left x10)) (An (An hpre.1 (o14 hpre y0 x10 hx10 y11)) (Ak 1 (fun (i14:Env)=>tv))))) (An (An (An (zr (AV.agg (cFrm f))) (An (zr (iv (c:Int))) (An (zr (iv (JaA f (setI left x10)))) tv))) (An (t50 (f) (c) (JaA f (setI left x10))) (An (An hpre.1 (An (o15 hpre y0 x10 hx10 y11) (An (o16 hpre y0 x10 hx10 y11) (o17 hpre y0 x10 hx10 y11)))) (Ak 1 (fun (i15:Env)=>tv))))) (Ak 1 tv)))))) ?_
   refine zI (!JdY f c (JaA f (setI left x10))) (fun y16 => ?_) (fun y16 => ?_)
   ·refine Jaa ?_
    refine zR [1,2,3,8,7,9] [0,5000] (Ak 1 (An (o18 hpre y0 x10 hx10 y11 y16) (Ak 1 tv))) ?_
    exact zn (zE hE [] [(0,.same 0),(5000,.same 5000)] [1,2,8] [0] (An (An (An (zr (iv (c:Int))) (zr true)) (An (An (zr (Ja6 left)) (zr true)) (An (An (zr (some (Src.same 0))) (zr nilP)) (An (An (zr (JaP (Jac left []))) (zr true)) (An (zr (some (Src.same 5000))) (An (An (ci (o19 hpre y0 x10 hx10 y11 y16)) (zr nilN)) tv)))))) (An (An (An (zr (OB.cells 26 (cFrm f))) (zr true)) (An (An (zr 24) (An (zr 1) (An (o20 hpre y0 x10 hx10 y11 y16) (fun (i17:Nat)=>(fun (y18:i17 < (JaW f c left x10).length)=>(o21 hpre y0 x10 hx10 y11 y16 i17 y18)))))) tv)) (An (zr true) (zr true))))) (o22 hpre y0 x10 hx10 y11 y16) (o23 hpre y0 x10 hx10 y11 y16)
   ·refine Ja3 ?_
    refine Ja0 ?_
    refine zR [1,2,3,8,7,9,10] [0,5000,10224] (Ak 2 (An (o24 hpre y0 x10 hx10 y11 y16) (Ak 1 tv))) ?_
    refine Ja0 ?_
    refine Ja0 ?_
    refine zR [1,2,3,8,7,9,10,11] [0,5000,10224] (Ak 1 tv) ?_
    refine Ja2 ?_
    refine zL (Hint.ann (h32b f c left x10) [(1,iv (c:Int)),(2,Ja6 left),(3,AV.ptr 0 []),(8,JaP (Jac left [])),(7,AV.vec 5000),(9,iv (x10:Int))] [(0,OB.cells 26 (cFrm f)),(5000,OB.vec 24 1 (JaW f c left x10).length fun (i:Nat)=>[JaP ((JaW f c left x10).getD i [])])] 20248) (zE hE [] [(0,.same 0),(5000,.same 5000),(5001,.same 10224)] [1,2,8,9] [0,5000] (An (An (An (zr (iv (c:Int))) (zr true)) (An (An (zr (Ja6 left)) (zr true)) (An (An (zr (some (Src.same 0))) (zr nilP)) (An (An (zr (JaP (Jac left []))) (zr true)) (An (zr (some (Src.same 5000))) (An (An (zr (iv (x10:Int))) (zr true)) (An (zr (some (Src.same 10224))) (An (An (ci (o25 hpre y0 x10 hx10 y11 y16)) (zr nilN)) tv)))))))) (An (An (An (zr (OB.cells 26 (cFrm f))) (zr true)) (An (An (zr (OB.vec 24 1 (JaW f c left x10).length fun (i:Nat)=>[JaP ((JaW f c left x10).getD i [])])) (zr true)) (An (An (zr 3) (An (zr 1) (An (o26 hpre y0 x10 hx10 y11 y16) (fun (i20:Nat)=>(fun (y21:i20 < 0 + left.length)=>(o27 hpre y0 x10 hx10 y11 y16 i20 y21)))))) tv))) (An (zr true) (zr true))))) (o28 hpre y0 x10 hx10 y11 y16) (fun (x19:Nat) hx19 => ?_)
    refine Ja0 ?_
    refine Ja0 ?_
    refine zR [1,2,3,8,7,9,10,11,44] [0,5000,5001] (Ak 4 tv) ?_
    refine zI (decide ((x19:Int) < (↑(left.length):Int))) (fun y22 => ?_) (fun y22 => ?_)
    ·refine Ja3 ?_
     refine Ja0 ?_
     refine Ja2 ?_
     refine zR [1,2,3,8,7,9,10,11] [0,5000,5001] (Ak 2 (An (An (o29 hpre y0 x10 hx10 y11 y16 x19 hx19 y22) (o30 hpre y0 x10 hx10 y11 y16 x19 hx19 y22)) (An (An (o31 hpre y0 x10 hx10 y11 y16 x19 hx19 y22) tv) (Ak 2 (An (An (o32 hpre y0 x10 hx10 y11 y16 x19 hx19 y22) (o33 hpre y0 x10 hx10 y11 y16 x19 hx19 y22)) (Ak 2 (An (An (o34 hpre y0 x10 hx10 y11 y16 x19 hx19 y22) (o35 hpre y0 x10 hx10 y11 y16 x19 hx19 y22)) (Ak 1 (An (o36 hpre y0 x10 hx10 y11 y16 x19 hx19 y22) (An (An (o37 hpre y0 x10 hx10 y11 y16 x19 hx19 y22) (o38 hpre y0 x10 hx10 y11 y16 x19 hx19 y22)) (An (An (o39 hpre y0 x10 hx10 y11 y16 x19 hx19 y22) tv) tv))))))))))) ?_
     refine zR [1,2,3,8,7,9,10,11] [0,5000,5001] (Ak 1 (An (o40 hpre y0 x10 hx10 y11 y16 x19 hx19 y22) (Ak 1 tv))) ?_
     exact zn (zE hE [] [(0,.same 0),(5000,.same 5000),(5001,.same 5001)] [1,2,8,9] [0,5000] (An (An (An (zr (iv (c:Int))) (zr true)) (An (An (zr (Ja6 left)) (zr true)) (An (An (zr (some (Src.same 0))) (zr nilP)) (An (An (zr (JaP (Jac left []))) (zr true)) (An (zr (some (Src.same 5000))) (An (An (zr (iv (x10:Int))) (zr true)) (An (zr (some (Src.same 5001))) (An (An (ci (o41 hpre y0 x10 hx10 y11 y16 x19 hx19 y22)) (zr nilN)) tv)))))))) (An (An (An (zr (OB.cells 26 (cFrm f))) (zr true)) (An (An (zr (OB.vec 24 1 (JaW f c left x10).length fun (i:Nat)=>[JaP ((JaW f c left x10).getD i [])])) (zr true)) (An (An (zr 3) (An (zr 1) (An (zr left.length) (fun (i23:Nat)=>(fun (y24:i23 < left.length)=>(o42 hpre y0 x10 hx10 y11 y16 x19 hx19 y22 i23 y24)))))) tv))) (An (zr true) (zr true))))) (o43 hpre y0 x10 hx10 y11 y16 x19 hx19 y22) (o44 hpre y0 x10 hx10 y11 y16 x19 hx19 y22)
    ·refine Jaa ?_
     refine Ja0 ?_
     refine Jbi (zE (st2:=ASt.mk [(1,iv (c:Int)),(2,Ja6 left),(3,AV.ptr 0 []),(8,JaP (Jac left [])),(7,AV.vec 5000),(9,iv (x10:Int)),(10,AV.sl 1 left.length fun (q:Nat)=>[iv (JbZ left (setI left x10) x19 q)]),(11,iv (x19:Int)),(44,bv (decide ((x19:Int) < (↑(left.length):Int))))] [(0,OB.cells 26 (cFrm f)),(5000,OB.vec 24 1 (JaW f c left x10).length fun (i:Nat)=>[JaP ((JaW f c left x10).getD i [])])] 20280) hE [5001] [(0,.same 0),(5000,.same 5000)] [1,2,8,9,11,44] [0,5000] (An (An (An (zr (iv (c:Int))) (zr true)) (An (An (zr (Ja6 left)) (zr true)) (An (An (zr (some (Src.same 0))) (zr nilP)) (An (An (zr (JaP (Jac left []))) (zr true)) (An (zr (some (Src.same 5000))) (An (An (zr (iv (x10:Int))) (zr true)) (An (An (zr 1) (An (zr left.length) (fun (i25:Nat)=>(fun (y26:i25 < left.length)=>(zr ([iv (JbZ left (setI left x10) x19 i25)])))))) (An (An (zr (iv (x19:Int))) (zr true)) (An (An (zr (bv (decide ((x19:Int) < (↑(left.length):Int))))) (zr true)) tv))))))))) (An (An (An (zr (OB.cells 26 (cFrm f))) (zr true)) (An (An (zr (OB.vec 24 1 (JaW f c left x10).length fun (i:Nat)=>[JaP ((JaW f c left x10).getD i [])])) (zr true)) tv)) (An (zr true) (zr true))))) ?_
     refine zC ([(4,CallSpec.eq (c32r f c left x10) [true,false,false])]) [1,2,3,8,7,9,12] [0,5000] (Ak 2 (An (o45 hpre y0 x10 hx10 y11 y16 x19 hx19 y22) (Ak 1 (An (An (An (zr (AV.agg (cFrm f))) (An (ci (o46 hpre y0 x10 hx10 y11 y16 x19 hx19 y22)) (An (An (zr 1) (An (o47 hpre y0 x10 hx10 y11 y16 x19 hx19 y22) (fun (i27:Nat)=>(fun (y28:i27 < (Jaq left (setI left x10)).length)=>(o48 hpre y0 x10 hx10 y11 y16 x19 hx19 y22 i27 y28))))) tv))) (An (o49 hpre y0 x10 hx10 y11 y16 x19 hx19 y22) (An (An hpre.1 (An (o50 hpre y0 x10 hx10 y11 y16 x19 hx19 y22) (An (o51 hpre y0 x10 hx10 y11 y16 x19 hx19 y22) (o52 hpre y0 x10 hx10 y11 y16 x19 hx19 y22)))) (Ak 1 (fun (i29:Env)=>tv))))) (Ak 1 tv))))) ?_
     refine Ja0 ?_
     refine zR [1,2,3,8,7,9,12,13] [0,5000] (Ak 1 tv) ?_
     refine Ja2 ?_
     refine zL (Hint.ann (h32c f c left x10) [(1,iv (c:Int)),(2,Ja6 left),(3,AV.ptr 0 []),(8,JaP (Jac left [])),(9,iv (x10:Int)),(12,Jow (Jbk f (f.columns.length - (c + 1)) (Jaq left (setI left x10))))] [(0,OB.cells 26 (cFrm f))] 30336) (zE hE [] [(0,.same 0),(5002,.same 5000)] [1,2,8,9,12] [0] (An (An (An (zr (iv (c:Int))) (zr true)) (An (An (zr (Ja6 left)) (zr true)) (An (An (zr (some (Src.same 0))) (zr nilP)) (An (An (zr (JaP (Jac left []))) (zr true)) (An (An (zr (iv (x10:Int))) (zr true)) (An (An (zr (Jow (Jbk f (f.columns.length - (c + 1)) (Jaq left (setI left x10))))) (zr true)) (An (zr (some (Src.same 5000))) (An (An (ci (o53 hpre y0 x10 hx10 y11 y16 x19 hx19 y22)) (zr nilN)) tv)))))))) (An (An (An (zr (OB.cells 26 (cFrm f))) (zr true)) (An (An (zr 24) (An (zr 1) (An (o54 hpre y0 x10 hx10 y11 y16 x19 hx19 y22) (fun (i31:Nat)=>(fun (y32:i31 < (JaW f c left x10).length)=>(o55 hpre y0 x10 hx10 y11 y16 x19 hx19 y22 i31 y32)))))) tv)) (An (zr true) (zr true))))) (o56 hpre y0 x10 hx10 y11 y16 x19 hx19 y22) (fun (x30:Nat) hx30 => ?_)
     refine Ja0 ?_
     refine Ja0 ?_
     refine zR [1,2,3,8,9,12,7,13,68] [0,5002] (Ak 4 tv) ?_
     refine zI (decide ((x30:Int) < (↑((Jbk f (f.columns.length - (c + 1)) (Jaq left (setI left x10))).length):Int))) (fun y33 => ?_) (fun y33 => ?_)
     ·refine Ja3 ?_
      refine Ja0 ?_
      refine Ja2 ?_
      refine zR [1,2,3,8,9,12,7,13] [0,30464] (Ak 3 (An (An (o57 hpre y0 x10 hx10 y11 y16 x19 hx19 y22 x30 hx30 y33) (o58 hpre y0 x10 hx10 y11 y16 x19 hx19 y22 x30 hx30 y33)) (Ak 4 (An (An (o59 hpre y0 x10 hx10 y11 y16 x19 hx19 y22 x30 hx30 y33) (o60 hpre y0 x10 hx10 y11 y16 x19 hx19 y22 x30 hx30 y33)) (Ak 1 (An (o61 hpre y0 x10 hx10 y11 y16 x19 hx19 y22 x30 hx30 y33) (Ak 1 (An (o62 hpre y0 x10 hx10 y11 y16 x19 hx19 y22 x30 hx30 y33) (Ak 1 tv))))))))) ?_
      refine zR [1,2,3,8,9,12,7,13] [0,30464] (Ak 1 (An (o63 hpre y0 x10 hx10 y11 y16 x19 hx19 y22 x30 hx30 y33) (Ak 1 tv))) ?_
      exact zn (zE hE [] [(0,.same 0),(5002,.same 30464)] [1,2,8,9,12] [0] (An (An (An (zr (iv (c:Int))) (zr true)) (An (An (zr (Ja6 left)) (zr true)) (An (An (zr (some (Src.same 0))) (zr nilP)) (An (An (zr (JaP (Jac left []))) (zr true)) (An (An (zr (iv (x10:Int))) (zr true)) (An (An (zr (Jow (Jbk f (f.columns.length - (c + 1)) (Jaq left (setI left x10))))) (zr true)) (An (zr (some (Src.same 30464))) (An (An (ci (o64 hpre y0 x10 hx10 y11 y16 x19 hx19 y22 x30 hx30 y33)) (zr nilN)) tv)))))))) (An (An (An (zr (OB.cells 26 (cFrm f))) (zr true)) (An (An (zr 24) (An (zr 1) (An (o65 hpre y0 x10 hx10 y11 y16 x19 hx19 y22 x30 hx30 y33) (fun (i34:Nat)=>(fun (y35:i34 < (Jbo f c left x10 x30).length + 1)=>(o66 hpre y0 x10 hx10 y11 y16 x19 hx19 y22 x30 hx30 y33 i34 y35)))))) tv)) (An (zr true) (zr true))))) (o67 hpre y0 x10 hx10 y11 y16 x19 hx19 y22 x30 hx30 y33) (o68 hpre y0 x10 hx10 y11 y16 x19 hx19 y22 x30 hx30 y33)
     ·refine Jaa ?_
      refine zR [1,2,3,8,9,7] [0,5002] (Ak 1 (An (o69 hpre y0 x10 hx10 y11 y16 x19 hx19 y22 x30 hx30 y33) (Ak 1 tv))) ?_
      exact zn (zE hE [] [(0,.same 0),(5000,.same 5002)] [1,2,8] [0] (An (An (An (zr (iv (c:Int))) (zr true)) (An (An (zr (Ja6 left)) (zr true)) (An (An (zr (some (Src.same 0))) (zr nilP)) (An (An (zr (JaP (Jac left []))) (zr true)) (An (zr (some (Src.same 5002))) (An (An (ci (o70 hpre y0 x10 hx10 y11 y16 x19 hx19 y22 x30 hx30 y33)) (zr nilN)) tv)))))) (An (An (An (zr (OB.cells 26 (cFrm f))) (zr true)) (An (An (zr 24) (An (zr 1) (An (o71 hpre y0 x10 hx10 y11 y16 x19 hx19 y22 x30 hx30 y33) (fun (i36:Nat)=>(fun (y37:i36 < (Jbo f c left x10 x30).length)=>(o72 hpre y0 x10 hx10 y11 y16 x19 hx19 y22 x30 hx30 y33 i36 y37)))))) tv)) (An (zr true) (zr true))))) (o73 hpre y0 x10 hx10 y11 y16 x19 hx19 y22 x30 hx30 y33) (o74 hpre y0 x10 hx10 y11 y16 x19 hx19 y22 x30 hx30 y33)
  ·refine Jaa ?_
   refine Ja0 ?_
   refine zR [6] [5000] (Ak 2 tv) ?_
   refine Ja5 ?_
   exact zT [5000] (An (Ak 1 tv) (An (An (zr 1) (An (o75 hpre y0 x10 hx10 y11) (fun (i38:Nat)=>(fun (y39:i38 < (Jbk f (f.columns.length - c) left).length)=>(o76 hpre y0 x10 hx10 y11 i38 y39))))) (An (zr true) (An (zr true) (zr true)))))
theorem JmP {d:List AV} (s:List Int) (l:List (List Int)):AV.sl 1 (1 + l.length) (catF 1 (fun j=>[[Ja6 s]].getD j d) (fun i=>[Ja6 (l.getD i [])]))=JaP (s :: l):=by
 have:(catF 1 (fun j=>[[Ja6 s]].getD j d) (fun i=>[Ja6 (l.getD i [])]))=fun i=>[Ja6 ((s :: l).getD i [])]:=by
  funext i
  unfold catF
  cases i with
  | zero=>rfl
  | succ i=>rw [if_neg (by omega),Nat.add_sub_cancel]; rfl
 unfold JaP
 rw [this,List.length_cons,Nat.add_comm]
theorem t32 (f:Frm) (c:Nat) (left:List Int):Ja4 Tryz.prog 32 (s32 f c left):=by
  have key:∀ (k c:Nat) (left:List Int),f.columns.length - c<=k->Ja4 Tryz.prog 32 (s32 f c left):=by
    intro k
    induction k with
    | zero =>
      intro c left hk
      apply w32
      all_goals (try delta q40 q41 q42 q43 q44 q45 q46 q47 q48 q49 q4a q4b)
      all_goals (rintro ⟨hs,hc,hl,hp⟩; have he:c=f.columns.length:=by omega)
      case o0=>intro _ E o u h; cases h; exact Rel.slN 1 _
      case o1=>intro _; rw [he,Nat.sub_self]; rfl
      case o2 =>
        intro _ i hi
        rw [he,Nat.sub_self] at hi ⊢
        have:i=0:=by (have h1:(Jbk f 0 left).length=1:=rfl); omega
        subst this; rfl
      all_goals (intro h; exact absurd (by omega) (of_decide_eq_false h))
    | succ k ih =>
      intro c left hk
      apply w32
      all_goals (try delta q40 q41 q42 q43 q44 q45 q46 q47 q48 q49 q4a q4b)
      all_goals (rintro ⟨hs,hc,hl,hp⟩)
      case o0=>intro _ E o u h; cases h; exact Rel.slN 1 _
      case o1=>intro h; rw [show c=f.columns.length by have:=of_decide_eq_true h; omega,Nat.sub_self]; rfl
      case o2 =>
        intro h i hi
        rw [show c=f.columns.length by have:=of_decide_eq_true h; omega,Nat.sub_self] at hi ⊢
        have:i=0:=by (have h1:(Jbk f 0 left).length=1:=rfl); omega
        subst this; rfl
      all_goals (intro h; have he:c < f.columns.length:=(by have:=of_decide_eq_false h; omega); have h3:=hl.short hs; have hcl:=hs.columns)
      case o3=>exact Nat.zero_le _
      case o4=>exact h3
      case o5=>intro q hq; exact hl.nonneg q hq
      case o6=>intro q hq; exact hl.small hs q hq
      case o7 | o8=>rfl
      case o9=>exact Nat.zero_le _
      all_goals (intro x hx hx2; simp only [decide_eq_true_eq,decide_eq_false_iff_not] at hx2)
      all_goals (rw [JeC] at hx2)
      all_goals (try rw [JeC])
      case o75=>rw [show x=(JbG left).length by omega,Jgt he]
      case o76=>intro i hi; rw [show x=(JbG left).length by omega,Jgt he]
      all_goals (have hxl:x < Jak left:=(by rw [← JfB]; omega); have hsn:=JmM hxl; have hset:=hl.isSet hxl; have hpts:=Ji5 hs hset; have hmem:=hl.set hxl; rw [← hsn] at hset hpts hmem)
      case o10 | o11=>omega
      case o12=>rfl
      case o13=>intro i hi; rfl
      case o14=>exact hset
      case o15=>exact he
      case o16 | o17=>omega
      all_goals (intro hsu; have hsu2:=hsu; simp only [Bool.not_eq_true',Bool.not_eq_false'] at hsu2)
      case o18 | o19=>first | omega | (have:=Nat.le_of_lt hxl; have:Jak left<=30:=hp; simp only [inI]; omega)
      case o20=>rw [JcR (by omega),Jhi hsu2,List.append_nil]
      case o21=>intro i hi; rw [JcR (by omega),Jhi hsu2,List.append_nil]
      case o22 | o23=>omega
      case o24 | o26 | o28=>omega
      case o25=>rfl
      case o27=>intro i hi; rfl
      all_goals (intro y hy hy2; simp only [decide_eq_true_eq,decide_eq_false_iff_not] at hy2)
      case o36 =>
        have a:=hmem y (by omega)
        have b:=hl.small hs y (by omega)
        have e:(JbG left).getD x []=setI left x:=rfl
        rw [Jgv,e]; simp only [inI]; omega
      case o35 => have e : ((JbG left).getD x []).length = left.length := by (show (setI left x).length = _; rw [hsn, Jbw])
                  omega
      case o42 =>
        intro i hi
        refine Jgp (fun h => ?_) (fun h => ?_)
        · unfold JbZ
          by_cases h5:i < y
          · rw [if_pos h5,if_pos (by omega)]
          · rw [if_neg h5,if_neg (by omega)]
        · subst h
          rw [Jgv]
          unfold JbZ
          rw [if_pos (Nat.lt_succ_self _)]; rfl
      case o29 | o30 | o31 | o32 | o33 | o34 | o37 | o38 | o39 | o40 | o41 | o43 | o44=>first | omega | (simp only [inI]; omega)
      case o45 | o46=>first | omega | (simp only [inI]; omega)
      case o47=>exact (JbC _ _).symm
      case o48=>intro i hi; rw [JbC] at hi; rw [show y=left.length by omega,JmO hi]
      case o49=>exact ih _ _ (by omega)
      case o50=>omega
      case o51=>rw [hsn]; exact hl.rest hxl
      case o52=>exact Jij hl hxl hp
      case o53=>rfl
      case o54=>rw [JfE]
      case o55=>intro i hi; rw [JfE]
      case o56=>exact Nat.zero_le _
      all_goals (intro z hz hz2; simp only [decide_eq_true_eq,decide_eq_false_iff_not] at hz2)
      all_goals (have hml:(Jcx f c left x).length=(Jbk f (f.columns.length - (c + 1)) (Jaq left (setI left x))).length:=rfl)
      all_goals (have hm9:=JfC hs hl hp (c:=c) hxl; have hin:=Jl0 hs hl hp (c:=c) hxl z)
      case o61 => have := Jov hs (c := c) (left := left) (x := x) (k := z) (by omega)
                  have e:(Jbk f (f.columns.length - (c + 1)) (Jaq left (setI left x))).getD z []=(Jcx f c left x).getD z []:=rfl
                  rw [e]; omega
      case o65=>rw [JfD (by omega),List.length_append]; rfl
      case o66 =>
        intro i hi
        rw [JfD (by omega)]
        exact Jc4 (Jbo f c left x z) (setI left x :: (Jcx f c left x).getD z []) [] (fun l=>[JaP l]) rfl (fun _ _=>rfl) (congrArg (fun v=>[v]) (JmP _ _)) hi
      case o71=>rw [Jgu (by omega) (by omega) hsu2]
      case o72=>intro i hi; rw [Jgu (by omega) (by omega) hsu2]
      all_goals (first | omega | (simp only [inI]; omega))
  exact key _ c left (Nat.le_refl _)
end Go.Ab
namespace Go.Sh
open Go.Ab
end Go.Sh
namespace Go.Ab
open Go Go.RowKit Go.Proofs Go.Sh Go.En
end Go.Ab
namespace Go.Ab
open Go Go.RowKit Go.Proofs Go.Sh Go.En
end Go.Ab
namespace Go.Sh
open Go.Ab
def outC (f:Frm) (out:List Int) (i k:Nat):List Int:=if k < i then delW (col f k) (isIn out) else col f k
variable {f:Frm}
theorem JmQ (out:List Int) (i:Nat):outC f out (i + 1) i=delW (col f i) (isIn out):=if_pos (Nat.lt_succ_self i)
theorem Jik (out:List Int) (i:Nat):outC f out i i=col f i:=if_neg (Nat.lt_irrefl i)
theorem Jl3 {out:List Int} {i k:Nat} (h:k ≠ i):outC f out i k=outC f out (i + 1) k:=by
 unfold outC
 by_cases h1:k < i
 ·rw [if_pos h1,if_pos (by omega)]
 ·rw [if_neg h1,if_neg (by omega)]
theorem JdG (f:Frm) (out:List Int) (c:Nat):col (Jah f out) c=delW (col f c) (isIn out):=JdF f out c
theorem Jox {out:List Int} {k:Nat} (h:k < f.columns.length):outC f out f.columns.length k=col (Jah f out) k:=by
 unfold outC; rw [if_pos h,JdG]
theorem Jjs (f:Frm) (out:List Int):(Jah f out).columns.length=f.columns.length:=by show (f.columns.map _).length=_; rw [List.length_map]
theorem Jil (hs:Sound f) (out:List Int):GoodLeft (Jah f out) (Jar f f.strips.length):=Jet (f:=Jah f out) (JcQ hs out)
theorem Joy (hs:Sound f) (out:List Int):canP f out=decide (((Jbk (Jah f out) (Jah f out).columns.length (Jar f f.strips.length)).length:Int) > 0):=by
 unfold canP
 rw [Jjr (JcQ hs out),JmJ]; rfl
theorem JmR (h:Ja8 f=0):Jbj f=true:=by
 cases e1:Jbj f with
 | true=>rfl
 | false=>unfold Ja8 at h; rw [e1] at h; exact absurd h (by rw [if_neg Bool.false_ne_true]; decide)
theorem Jl4 (h:Ja8 f=0):RisN f.pieces.length (Jaj f)/\Jau f (Jaj f)=JbW f/\canP f (Jaj f)=true/\(refP f).isSome=true /\ ∀ l,RisN f.pieces.length l->canP f l=true -> ¬ LtK f l (Jaj f):=by
 have h1:=JmR h
 unfold Ja8 at h
 rw [if_pos h1] at h
 unfold Jaj JbW
 rw [if_pos h1,if_pos h1]
 cases e:refP f with
 | none=>rw [e] at h; exact absurd h (by decide)
 | some x =>
  obtain ⟨a,b,c,d⟩:=JmG (Jds h1) e
  exact ⟨b,a.symm,c,rfl,d⟩
theorem JmS (f o:Frm) (h:o.strips=f.strips):Jcv o o.strips.length=Jcv f f.strips.length:=by
 unfold Jcv stp; rw [h]
end Go.Sh
namespace Go.Ab
open Go Go.RowKit Go.Proofs Go.Sh Go.En
def s33 (f:Frm) (out:List Int):CallSpec:={ args:=[vFrm f,Ja6 out],res:=vFrm (Jah f out),pre:=Jai f/\out.length<=big }
def c33 (f:Frm) (out:List Int) (id:Nat):CallSpec:=s7o f id
def h33a (f:Frm) (out:List Int):Hint:={ X:=Nat,M:=fun i=>[(6,iv i)],H:=fun i=>[(26,.vecx 27 1 f.columns.length (fun k=>[Ja6 (outC f out i k)]) i [Ja6 (col f i)])],I:=fun i=>i<=f.columns.length,mu:=fun i=>f.columns.length - i,x0:=(0:Nat),nx:=fun i=>i + 1 }
def h33b (f:Frm) (out:List Int) (i:Nat):Hint:={ X:=Nat,M:=fun k=>[(7,iv k)],H:=fun k=>[(26,.vecx 27 1 f.columns.length (fun j=>[Ja6 (outC f out i j)]) i [.vec 5001]),(5001,.vec 3 1 (JaE (col f i) (isIn out) k).length (fun p=>[iv ((JaE (col f i) (isIn out) k).getD p 0)]))],I:=fun k=>k<=(col f i).length,mu:=fun k=>(col f i).length - k,x0:=(0:Nat),nx:=fun k=>k + 1 }
def s15 (f:Frm) (out:List Int):CallSpec:={ args:=[vFrm f,Ja6 out],res:=bv (canP f out),pre:=Sound f/\Jcv f f.strips.length<=30/\out.length<=big }
def c15 (f:Frm) (out:List Int):CallSpec:=s32 (Jah f out) 0 (Jar f f.strips.length)
end Go.Ab
namespace Go.Ab
open Go Go.RowKit Go.Proofs Go.Sh Go.En
abbrev q4h (f:Frm) (out:List Int) (Pq:Prop):Prop:=Jai f/\List.length out <= big->Pq
abbrev q4i (f:Frm) (x1:Nat) (Pq:Prop):Prop:=x1<=f.columns.length->Pq
abbrev q4j (f:Frm) (x1:Nat) (Pq:Prop):Prop:=q4i f x1 (decide ((x1:Int) < (↑(f.columns.length):Int))=true->Pq)
abbrev q4k (f:Frm) (x1:Nat) (x8:Nat) (Pq:Prop):Prop:=x8<=(col f x1).length->Pq
abbrev q4l (f:Frm) (x1:Nat) (x8:Nat) (Pq:Prop):Prop:=q4k f x1 x8 (decide ((x8:Int) < (↑((col f x1).length):Int))=true->Pq)
abbrev q4m (f:Frm) (out:List Int) (x1:Nat) (x8:Nat) (Pq:Prop):Prop:=q4l f x1 x8 ((!isIn out ((col f x1).getD x8 0))=true->Pq)
abbrev q4n (f:Frm) (out:List Int) (x1:Nat) (x8:Nat) (Pq:Prop):Prop:=q4l f x1 x8 ((!isIn out ((col f x1).getD x8 0))=false->Pq)
abbrev q4o (f:Frm) (x1:Nat) (x8:Nat) (Pq:Prop):Prop:=q4k f x1 x8 (decide ((x8:Int) < (↑((col f x1).length):Int))=false->Pq)
abbrev q4p (f:Frm) (x1:Nat) (Pq:Prop):Prop:=q4i f x1 (decide ((x1:Int) < (↑(f.columns.length):Int))=false->Pq)
theorem w33 (f:Frm) (out:List Int)
 (o0:q4h f out (0=(↑0:Int)))
 (o1:q4h f out (∀ (i2:Nat),i2 < f.columns.length->i2 ≠ 0 -> [Ja6 (col f i2)] = [Ja6 (outC f out 0 i2)]))
 (o2:q4h f out (0<=f.columns.length))
 (o3:q4h f out (∀ (x1:Nat),q4j f x1 (0<=(x1:Int))))
 (o4:q4h f out (∀ (x1:Nat),q4j f x1 ((x1:Int) < (↑(f.columns.length):Int))))
 (o5:q4h f out (∀ (x1:Nat),q4j f x1 (x1 < f.columns.length)))
 (o6:q4h f out (∀ (x1:Nat),q4j f x1 (0=(↑0:Int))))
 (o7:q4h f out (∀ (x1:Nat),q4j f x1 ((JaE (col f x1) (isIn out) 0).length=0)))
 (o8:q4h f out (∀ (x1:Nat),q4j f x1 (0<=(col f x1).length)))
 (o9:q4h f out (∀ (x1:Nat),q4j f x1 (∀ (x8:Nat),q4k f x1 x8 (0<=(x1:Int)))))
 (o10:q4h f out (∀ (x1:Nat),q4j f x1 (∀ (x8:Nat),q4k f x1 x8 ((x1:Int) < (↑(f.columns.length):Int)))))
 (o11:q4h f out (∀ (x1:Nat),q4j f x1 (∀ (x8:Nat),q4l f x1 x8 (0<=(x1:Int)))))
 (o12:q4h f out (∀ (x1:Nat),q4j f x1 (∀ (x8:Nat),q4l f x1 x8 ((x1:Int) < (↑(f.columns.length):Int)))))
 (o13:q4h f out (∀ (x1:Nat),q4j f x1 (∀ (x8:Nat),q4l f x1 x8 (0<=(x8:Int)))))
 (o14:q4h f out (∀ (x1:Nat),q4j f x1 (∀ (x8:Nat),q4l f x1 x8 ((x8:Int) < (↑((col f x1).length):Int)))))
 (o15:q4h f out (∀ (x1:Nat),q4j f x1 (∀ (x8:Nat),q4m f out x1 x8 (0<=(x1:Int)))))
 (o16:q4h f out (∀ (x1:Nat),q4j f x1 (∀ (x8:Nat),q4m f out x1 x8 ((x1:Int) < (↑(f.columns.length):Int)))))
 (o17:q4h f out (∀ (x1:Nat),q4j f x1 (∀ (x8:Nat),q4m f out x1 x8 (x1 < f.columns.length))))
 (o18:q4h f out (∀ (x1:Nat),q4j f x1 (∀ (x8:Nat),q4m f out x1 x8 (0<=(x1:Int)))))
 (o19:q4h f out (∀ (x1:Nat),q4j f x1 (∀ (x8:Nat),q4m f out x1 x8 ((x1:Int) < (↑(f.columns.length):Int)))))
 (o20:q4h f out (∀ (x1:Nat),q4j f x1 (∀ (x8:Nat),q4m f out x1 x8 (0<=(x8:Int)))))
 (o21:q4h f out (∀ (x1:Nat),q4j f x1 (∀ (x8:Nat),q4m f out x1 x8 ((x8:Int) < (↑((col f x1).length):Int)))))
 (o22:q4h f out (∀ (x1:Nat),q4j f x1 (∀ (x8:Nat),q4m f out x1 x8 ((JaE (col f x1) (isIn out) x8).length + 1<=65536))))
 (o23:q4h f out (∀ (x1:Nat),q4j f x1 (∀ (x8:Nat),q4m f out x1 x8 (0<=(x1:Int)))))
 (o24:q4h f out (∀ (x1:Nat),q4j f x1 (∀ (x8:Nat),q4m f out x1 x8 ((x1:Int) < (↑(f.columns.length):Int)))))
 (o25:q4h f out (∀ (x1:Nat),q4j f x1 (∀ (x8:Nat),q4m f out x1 x8 (x1 < f.columns.length))))
 (o26:q4h f out (∀ (x1:Nat),q4j f x1 (∀ (x8:Nat),q4m f out x1 x8 (inI ((x8:Int) + 1)))))
 (o27:q4h f out (∀ (x1:Nat),q4j f x1 (∀ (x8:Nat),q4m f out x1 x8 ((x8:Int) + 1=(↑(x8 + 1):Int)))))
 (o28:q4h f out (∀ (x1:Nat),q4j f x1 (∀ (x8:Nat),q4m f out x1 x8 ((JaE (col f x1) (isIn out) x8).length + 1=(JaE (col f x1) (isIn out) (x8 + 1)).length))))
 (o29:q4h f out (∀ (x1:Nat),q4j f x1 (∀ (x8:Nat),q4m f out x1 x8 (∀ (i18:Nat),i18 < (JaE (col f x1) (isIn out) x8).length + 1->catF (JaE (col f x1) (isIn out) x8).length (fun (p:Nat)=>[iv ((JaE (col f x1) (isIn out) x8).getD p 0)]) (fun (j:Nat)=>List.getD [[iv ((col f x1).getD x8 0)]] j (TI.za ti3)) i18 = [iv ((JaE (col f x1) (isIn out) (x8 + 1)).getD i18 0)]))))
 (o30:q4h f out (∀ (x1:Nat),q4j f x1 (∀ (x8:Nat),q4m f out x1 x8 (x8 + 1<=(col f x1).length))))
 (o31:q4h f out (∀ (x1:Nat),q4j f x1 (∀ (x8:Nat),q4m f out x1 x8 ((col f x1).length - (x8 + 1) < (col f x1).length - x8))))
 (o32:q4h f out (∀ (x1:Nat),q4j f x1 (∀ (x8:Nat),q4n f out x1 x8 (inI ((x8:Int) + 1)))))
 (o33:q4h f out (∀ (x1:Nat),q4j f x1 (∀ (x8:Nat),q4n f out x1 x8 ((x8:Int) + 1=(↑(x8 + 1):Int)))))
 (o34:q4h f out (∀ (x1:Nat),q4j f x1 (∀ (x8:Nat),q4n f out x1 x8 ((JaE (col f x1) (isIn out) x8).length=(JaE (col f x1) (isIn out) (x8 + 1)).length))))
 (o35:q4h f out (∀ (x1:Nat),q4j f x1 (∀ (x8:Nat),q4n f out x1 x8 (∀ (i23:Nat),i23 < (JaE (col f x1) (isIn out) x8).length -> [iv ((JaE (col f x1) (isIn out) x8).getD i23 0)] = [iv ((JaE (col f x1) (isIn out) (x8 + 1)).getD i23 0)]))))
 (o36:q4h f out (∀ (x1:Nat),q4j f x1 (∀ (x8:Nat),q4n f out x1 x8 (x8 + 1<=(col f x1).length))))
 (o37:q4h f out (∀ (x1:Nat),q4j f x1 (∀ (x8:Nat),q4n f out x1 x8 ((col f x1).length - (x8 + 1) < (col f x1).length - x8))))
 (o38:q4h f out (∀ (x1:Nat),q4j f x1 (∀ (x8:Nat),q4o f x1 x8 (∀ (i25:Nat),i25 < f.columns.length->i25 ≠ x1 -> [Ja6 (outC f out x1 i25)] = [Ja6 (outC f out (x1 + 1) i25)]))))
 (o39:q4h f out (∀ (x1:Nat),q4j f x1 (∀ (x8:Nat),q4o f x1 x8 ((JaE (col f x1) (isIn out) x8).length=(outC f out (x1 + 1) x1).length))))
 (o40:q4h f out (∀ (x1:Nat),q4j f x1 (∀ (x8:Nat),q4o f x1 x8 (∀ (i28:Nat),i28 < (outC f out (x1 + 1) x1).length -> [iv ((JaE (col f x1) (isIn out) x8).getD i28 0)] = [iv ((outC f out (x1 + 1) x1).getD i28 0)]))))
 (o41:q4h f out (∀ (x1:Nat),q4j f x1 (∀ (x8:Nat),q4o f x1 x8 (inI ((x1:Int) + 1)))))
 (o42:q4h f out (∀ (x1:Nat),q4j f x1 (∀ (x8:Nat),q4o f x1 x8 ((x1:Int) + 1=(↑(x1 + 1):Int)))))
 (o43:q4h f out (∀ (x1:Nat),q4j f x1 (∀ (x8:Nat),q4o f x1 x8 ((outC f out (x1 + 1) (x1 + 1)).length=(col f (x1 + 1)).length))))
 (o44:q4h f out (∀ (x1:Nat),q4j f x1 (∀ (x8:Nat),q4o f x1 x8 (∀ (i33:Nat),i33 < (col f (x1 + 1)).length -> [iv ((outC f out (x1 + 1) (x1 + 1)).getD i33 0)] = [iv ((col f (x1 + 1)).getD i33 0)]))))
 (o45:q4h f out (∀ (x1:Nat),q4j f x1 (∀ (x8:Nat),q4o f x1 x8 (x1 + 1<=f.columns.length))))
 (o46:q4h f out (∀ (x1:Nat),q4j f x1 (∀ (x8:Nat),q4o f x1 x8 (f.columns.length - (x1 + 1) < f.columns.length - x1))))
 (o47:q4h f out (∀ (x1:Nat),q4p f x1 (∀ (i35:Nat),i35 < f.columns.length->i35 ≠ x1 -> [Ja6 (outC f out x1 i35)] = [Ja6 (col (Jah f out) i35)])))
 (o48:q4h f out (∀ (x1:Nat),q4p f x1 ((col f x1).length=(col (Jah f out) x1).length)))
 (o49:q4h f out (∀ (x1:Nat),q4p f x1 (∀ (i38:Nat),i38 < (col (Jah f out) x1).length -> [iv ((col f x1).getD i38 0)] = [iv ((col (Jah f out) x1).getD i38 0)])))
 (o50:q4h f out (∀ (x1:Nat),q4p f x1 (f.length=(Jah f out).length)))
 (o51:q4h f out (∀ (x1:Nat),q4p f x1 (f.slack=(Jah f out).slack)))
 (o52:q4h f out (∀ (x1:Nat),q4p f x1 (f.strips.length=(Jah f out).strips.length)))
 (o53:q4h f out (∀ (x1:Nat),q4p f x1 (∀ (i40:Nat),i40 < (Jah f out).strips.length->JaK (stp f i40)=JaK (stp (Jah f out) i40))))
 (o54:q4h f out (∀ (x1:Nat),q4p f x1 (f.pieces.length=(Jah f out).pieces.length)))
 (o55:q4h f out (∀ (x1:Nat),q4p f x1 (∀ (i42:Nat),i42 < (Jah f out).pieces.length->JaD (pc f i42)=JaD (pc (Jah f out) i42))))
 (o56:q4h f out (∀ (x1:Nat),q4p f x1 (f.columns.length=(Jah f out).columns.length))) :
  Ja4 Tryz.prog 33 (s33 f out):=by
 refine Ja7 Tryz.func33 rfl Tryz.call33 Jaw _ rfl rfl rfl rfl (Nat.le_of_ble_eq_true (by kernel_rfl)) (fun _ _ _ _ h=>h) ?_
 intro hpre C hC _ hE
 obtain ⟨P,w0,E0,av,hA,ro,df⟩:=C
 obtain ⟨rfl,rfl,rfl⟩:=hC
 refine Ja0 ?_
 refine zR [1,2,4] [0,8] (Ak 2 tv) ?_
 refine Ja0 ?_
 refine zC ([(1,CallSpec.eq (c33 f out 24) [true])]) [1,2,4,5] [0,8,32,24,25,26] (Ak 1 (An (An (An (zr (AV.agg (cFrm f))) tv) (An (t7o (f) (24)) (An hpre.1 (Ak 1 (fun (i0:Env)=>tv))))) (Ak 2 tv))) ?_
 refine Ja0 ?_
 refine Ja0 ?_
 refine zR [1,2,4,5,6] [0,8,32,24,25,26] (Ak 1 tv) ?_
 refine Ja2 ?_
 refine zL (Hint.ann (h33a f out) [(1,Ja6 out),(2,AV.ptr 0 []),(4,AV.ptr 8 []),(5,AV.ptr 32 [])] [(0,OB.cells 26 (cFrm f)),(8,OB.cells 26 [iv 0,iv 0,nilv,nilv,nilv]),(32,OB.cells 26 [iv f.length,iv f.slack,AV.vec 24,AV.vec 25,AV.vec 26]),(24,OB.vec 58 2 f.strips.length fun (i:Nat)=>JaK (stp f i)),(25,OB.vec 44 3 f.pieces.length fun (i:Nat)=>JaD (pc f i))] 10056) (zE hE [] [(0,.same 0),(8,.same 8),(32,.same 32),(24,.same 24),(25,.same 25),(26,.same 26)] [1] [0,8,24,25] (An (An (An (zr (Ja6 out)) (zr true)) (An (An (zr (some (Src.same 0))) (zr nilP)) (An (An (zr (some (Src.same 8))) (zr nilP)) (An (An (zr (some (Src.same 32))) (zr nilP)) (An (An (ci (o0 hpre)) (zr nilN)) tv))))) (An (An (An (zr (OB.cells 26 (cFrm f))) (zr true)) (An (An (zr (OB.cells 26 [iv 0,iv 0,nilv,nilv,nilv])) (zr true)) (An (An (zr 26) (An (An (An (zr (iv f.length)) (zr nilN)) (An (An (zr (iv f.slack)) (zr nilN)) (An (zr (some (Src.same 24))) (An (zr (some (Src.same 25))) (An (zr (some (Src.same 26))) tv))))) (zr true))) (An (An (zr (OB.vec 58 2 f.strips.length fun (i:Nat)=>JaK (stp f i))) (zr true)) (An (An (zr (OB.vec 44 3 f.pieces.length fun (i:Nat)=>JaD (pc f i))) (zr true)) (An (An (zr 27) (An (zr 1) (An (zr f.columns.length) (An (fun (i2:Nat)=>(fun (y3:i2 < f.columns.length)=>(fun (y4:i2 ≠ 0)=>(o1 hpre i2 y3 y4)))) (An (An (An (zr 1) (An (zr (col f 0).length) (fun (i5:Nat)=>(fun (y6:i5 < (col f 0).length)=>(zr ([iv ((col f 0).getD i5 0)])))))) tv) (zr true)))))) tv)))))) (An (zr true) (zr true))))) (o2 hpre) (fun (x1:Nat) hx1 => ?_)
 refine Ja0 ?_
 refine Ja0 ?_
 refine zR [1,2,4,5,6,14] [0,8,32,24,25,26] (Ak 5 tv) ?_
 refine zI (decide ((x1:Int) < (↑(f.columns.length):Int))) (fun y7 => ?_) (fun y7 => ?_)
 ·refine Ja3 ?_
  refine Ja0 ?_
  refine Ja2 ?_
  refine Ja0 ?_
  refine zR [1,2,4,5,6] [0,8,32,24,25,26] (Ak 3 (An (An (o3 hpre x1 hx1 y7) (o4 hpre x1 hx1 y7)) (An (An (zr x1) (An (o5 hpre x1 hx1 y7) tv)) tv))) ?_
  refine Ja0 ?_
  refine zR [1,2,4,5,6,7] [0,8,32,24,25,26] (Ak 1 tv) ?_
  refine Ja2 ?_
  refine zL (Hint.ann (h33b f out x1) [(1,Ja6 out),(2,AV.ptr 0 []),(4,AV.ptr 8 []),(5,AV.ptr 32 []),(6,iv (x1:Int))] [(0,OB.cells 26 (cFrm f)),(8,OB.cells 26 [iv 0,iv 0,nilv,nilv,nilv]),(32,OB.cells 26 [iv f.length,iv f.slack,AV.vec 24,AV.vec 25,AV.vec 26]),(24,OB.vec 58 2 f.strips.length fun (i:Nat)=>JaK (stp f i)),(25,OB.vec 44 3 f.pieces.length fun (i:Nat)=>JaD (pc f i))] 20144) (zE hE [] [(0,.same 0),(8,.same 8),(32,.same 32),(24,.same 24),(25,.same 25),(26,.same 26),(5001,.nil)] [1,6] [0,8,24,25] (An (An (An (zr (Ja6 out)) (zr true)) (An (An (zr (some (Src.same 0))) (zr nilP)) (An (An (zr (some (Src.same 8))) (zr nilP)) (An (An (zr (some (Src.same 32))) (zr nilP)) (An (An (zr (iv (x1:Int))) (zr true)) (An (An (ci (o6 hpre x1 hx1 y7)) (zr nilN)) tv)))))) (An (An (An (zr (OB.cells 26 (cFrm f))) (zr true)) (An (An (zr (OB.cells 26 [iv 0,iv 0,nilv,nilv,nilv])) (zr true)) (An (An (zr 26) (An (An (An (zr (iv f.length)) (zr nilN)) (An (An (zr (iv f.slack)) (zr nilN)) (An (zr (some (Src.same 24))) (An (zr (some (Src.same 25))) (An (zr (some (Src.same 26))) tv))))) (zr true))) (An (An (zr (OB.vec 58 2 f.strips.length fun (i:Nat)=>JaK (stp f i))) (zr true)) (An (An (zr (OB.vec 44 3 f.pieces.length fun (i:Nat)=>JaD (pc f i))) (zr true)) (An (An (zr 27) (An (zr 1) (An (zr f.columns.length) (An (zr x1) (An (fun (i9:Nat)=>(fun (y10:i9 < f.columns.length)=>(fun (y11:i9 ≠ x1)=>(zr ([Ja6 (outC f out x1 i9)]))))) (An (An (zr (some Src.nil)) tv) (zr true))))))) (An (o7 hpre x1 hx1 y7) tv))))))) (An (zr true) (zr true))))) (o8 hpre x1 hx1 y7) (fun (x8:Nat) hx8 => ?_)
  refine Ja0 ?_
  refine Ja0 ?_
  refine zR [1,2,4,5,6,7,28] [0,8,32,24,25,26,5001] (Ak 4 (An (An (o9 hpre x1 hx1 y7 x8 hx8) (o10 hpre x1 hx1 y7 x8 hx8)) (Ak 3 tv))) ?_
  refine zI (decide ((x8:Int) < (↑((col f x1).length):Int))) (fun y12 => ?_) (fun y12 => ?_)
  ·refine Ja3 ?_
   refine Ja0 ?_
   refine Ja2 ?_
   refine Ja0 ?_
   refine zC ([(9,CallSpec.eq (s31 out ((col f x1).getD x8 0)) [true,true])]) [1,2,4,5,6,7,41] [0,8,32,24,25,26,5001] (Ak 4 (An (An (o11 hpre x1 hx1 y7 x8 hx8 y12) (o12 hpre x1 hx1 y7 x8 hx8 y12)) (Ak 2 (An (An (o13 hpre x1 hx1 y7 x8 hx8 y12) (o14 hpre x1 hx1 y7 x8 hx8 y12)) (Ak 1 (An (An (An (zr (Ja6 out)) (An (zr (iv ((col f x1).getD x8 0))) tv)) (An (t31 (out) ((col f x1).getD x8 0)) (An hpre.2 (Ak 1 (fun (i13:Env)=>tv))))) (Ak 1 tv))))))) ?_
   refine zI (!isIn out ((col f x1).getD x8 0)) (fun y14 => ?_) (fun y14 => ?_)
   ·refine zR [1,2,4,5,6,7] [0,8,32,24,25,26,20432] (Ak 6 (An (An (o15 hpre x1 hx1 y7 x8 hx8 y12 y14) (o16 hpre x1 hx1 y7 x8 hx8 y12 y14)) (An (An (zr x1) (An (o17 hpre x1 hx1 y7 x8 hx8 y12 y14) tv)) (Ak 3 (An (An (o18 hpre x1 hx1 y7 x8 hx8 y12 y14) (o19 hpre x1 hx1 y7 x8 hx8 y12 y14)) (Ak 2 (An (An (o20 hpre x1 hx1 y7 x8 hx8 y12 y14) (o21 hpre x1 hx1 y7 x8 hx8 y12 y14)) (Ak 2 (An (o22 hpre x1 hx1 y7 x8 hx8 y12 y14) (An (An (o23 hpre x1 hx1 y7 x8 hx8 y12 y14) (o24 hpre x1 hx1 y7 x8 hx8 y12 y14)) (An (An (zr x1) (An (o25 hpre x1 hx1 y7 x8 hx8 y12 y14) tv)) tv))))))))))) ?_
    refine zR [1,2,4,5,6,7] [0,8,32,24,25,26,20432] (Ak 1 (An (o26 hpre x1 hx1 y7 x8 hx8 y12 y14) (Ak 1 tv))) ?_
    exact zn (zE hE [] [(0,.same 0),(8,.same 8),(32,.same 32),(24,.same 24),(25,.same 25),(26,.same 26),(5001,.same 20432)] [1,6] [0,8,24,25] (An (An (An (zr (Ja6 out)) (zr true)) (An (An (zr (some (Src.same 0))) (zr nilP)) (An (An (zr (some (Src.same 8))) (zr nilP)) (An (An (zr (some (Src.same 32))) (zr nilP)) (An (An (zr (iv (x1:Int))) (zr true)) (An (An (ci (o27 hpre x1 hx1 y7 x8 hx8 y12 y14)) (zr nilN)) tv)))))) (An (An (An (zr (OB.cells 26 (cFrm f))) (zr true)) (An (An (zr (OB.cells 26 [iv 0,iv 0,nilv,nilv,nilv])) (zr true)) (An (An (zr 26) (An (An (An (zr (iv f.length)) (zr nilN)) (An (An (zr (iv f.slack)) (zr nilN)) (An (zr (some (Src.same 24))) (An (zr (some (Src.same 25))) (An (zr (some (Src.same 26))) tv))))) (zr true))) (An (An (zr (OB.vec 58 2 f.strips.length fun (i:Nat)=>JaK (stp f i))) (zr true)) (An (An (zr (OB.vec 44 3 f.pieces.length fun (i:Nat)=>JaD (pc f i))) (zr true)) (An (An (zr 27) (An (zr 1) (An (zr f.columns.length) (An (zr x1) (An (fun (i15:Nat)=>(fun (y16:i15 < f.columns.length)=>(fun (y17:i15 ≠ x1)=>(zr ([Ja6 (outC f out x1 i15)]))))) (An (An (zr (some (Src.same 20432))) tv) (zr true))))))) (An (An (zr 3) (An (zr 1) (An (o28 hpre x1 hx1 y7 x8 hx8 y12 y14) (fun (i18:Nat)=>(fun (y19:i18 < (JaE (col f x1) (isIn out) x8).length + 1)=>(o29 hpre x1 hx1 y7 x8 hx8 y12 y14 i18 y19)))))) tv))))))) (An (zr true) (zr true))))) (o30 hpre x1 hx1 y7 x8 hx8 y12 y14) (o31 hpre x1 hx1 y7 x8 hx8 y12 y14)
   ·refine Ja3 ?_
    refine zR [1,2,4,5,6,7] [0,8,32,24,25,26,5001] (Ak 1 (An (o32 hpre x1 hx1 y7 x8 hx8 y12 y14) (Ak 1 tv))) ?_
    exact zn (zE hE [] [(0,.same 0),(8,.same 8),(32,.same 32),(24,.same 24),(25,.same 25),(26,.same 26),(5001,.same 5001)] [1,6] [0,8,24,25] (An (An (An (zr (Ja6 out)) (zr true)) (An (An (zr (some (Src.same 0))) (zr nilP)) (An (An (zr (some (Src.same 8))) (zr nilP)) (An (An (zr (some (Src.same 32))) (zr nilP)) (An (An (zr (iv (x1:Int))) (zr true)) (An (An (ci (o33 hpre x1 hx1 y7 x8 hx8 y12 y14)) (zr nilN)) tv)))))) (An (An (An (zr (OB.cells 26 (cFrm f))) (zr true)) (An (An (zr (OB.cells 26 [iv 0,iv 0,nilv,nilv,nilv])) (zr true)) (An (An (zr 26) (An (An (An (zr (iv f.length)) (zr nilN)) (An (An (zr (iv f.slack)) (zr nilN)) (An (zr (some (Src.same 24))) (An (zr (some (Src.same 25))) (An (zr (some (Src.same 26))) tv))))) (zr true))) (An (An (zr (OB.vec 58 2 f.strips.length fun (i:Nat)=>JaK (stp f i))) (zr true)) (An (An (zr (OB.vec 44 3 f.pieces.length fun (i:Nat)=>JaD (pc f i))) (zr true)) (An (An (zr 27) (An (zr 1) (An (zr f.columns.length) (An (zr x1) (An (fun (i20:Nat)=>(fun (y21:i20 < f.columns.length)=>(fun (y22:i20 ≠ x1)=>(zr ([Ja6 (outC f out x1 i20)]))))) (An (An (zr (some (Src.same 5001))) tv) (zr true))))))) (An (An (zr 3) (An (zr 1) (An (o34 hpre x1 hx1 y7 x8 hx8 y12 y14) (fun (i23:Nat)=>(fun (y24:i23 < (JaE (col f x1) (isIn out) x8).length)=>(o35 hpre x1 hx1 y7 x8 hx8 y12 y14 i23 y24)))))) tv))))))) (An (zr true) (zr true))))) (o36 hpre x1 hx1 y7 x8 hx8 y12 y14) (o37 hpre x1 hx1 y7 x8 hx8 y12 y14)
  ·refine Jaa ?_
   refine Jbi (zE (st2:=ASt.mk [(1,Ja6 out),(2,AV.ptr 0 []),(4,AV.ptr 8 []),(5,AV.ptr 32 []),(6,iv (x1:Int)),(7,iv (x8:Int)),(28,bv (decide ((x8:Int) < (↑((col f x1).length):Int))))] [(26,OB.vec 27 1 f.columns.length fun (k:Nat)=>[Ja6 (outC f out (x1 + 1) k)]),(0,OB.cells 26 (cFrm f)),(8,OB.cells 26 [iv 0,iv 0,nilv,nilv,nilv]),(32,OB.cells 26 [iv f.length,iv f.slack,AV.vec 24,AV.vec 25,AV.vec 26]),(24,OB.vec 58 2 f.strips.length fun (i:Nat)=>JaK (stp f i)),(25,OB.vec 44 3 f.pieces.length fun (i:Nat)=>JaD (pc f i))] 20208) hE [5001] [(0,.same 0),(8,.same 8),(32,.same 32),(24,.same 24),(25,.same 25),(26,.same 26)] [1,6,7,28] [0,8,24,25] (An (An (An (zr (Ja6 out)) (zr true)) (An (An (zr (some (Src.same 0))) (zr nilP)) (An (An (zr (some (Src.same 8))) (zr nilP)) (An (An (zr (some (Src.same 32))) (zr nilP)) (An (An (zr (iv (x1:Int))) (zr true)) (An (An (zr (iv (x8:Int))) (zr true)) (An (An (zr (bv (decide ((x8:Int) < (↑((col f x1).length):Int))))) (zr true)) tv))))))) (An (An (An (zr 27) (An (zr 1) (An (zr f.columns.length) (An (fun (i25:Nat)=>(fun (y26:i25 < f.columns.length)=>(fun (y27:i25 ≠ x1)=>(o38 hpre x1 hx1 y7 x8 hx8 y12 i25 y26 y27)))) (An (An (An (zr 1) (An (o39 hpre x1 hx1 y7 x8 hx8 y12) (fun (i28:Nat)=>(fun (y29:i28 < (outC f out (x1 + 1) x1).length)=>(o40 hpre x1 hx1 y7 x8 hx8 y12 i28 y29))))) tv) (An (zr true) (zr true))))))) (An (An (zr (OB.cells 26 (cFrm f))) (zr true)) (An (An (zr (OB.cells 26 [iv 0,iv 0,nilv,nilv,nilv])) (zr true)) (An (An (zr 26) (An (An (An (zr (iv f.length)) (zr nilN)) (An (An (zr (iv f.slack)) (zr nilN)) (An (zr (some (Src.same 24))) (An (zr (some (Src.same 25))) (An (zr (some (Src.same 26))) tv))))) (zr true))) (An (An (zr (OB.vec 58 2 f.strips.length fun (i:Nat)=>JaK (stp f i))) (zr true)) (An (An (zr (OB.vec 44 3 f.pieces.length fun (i:Nat)=>JaD (pc f i))) (zr true)) tv)))))) (An (zr true) (zr true))))) ?_
   refine zR [1,2,4,5,6] [0,8,32,24,25,26] (Ak 1 (An (o41 hpre x1 hx1 y7 x8 hx8 y12) (Ak 1 tv))) ?_
   exact zn (zE hE [] [(0,.same 0),(8,.same 8),(32,.same 32),(24,.same 24),(25,.same 25),(26,.same 26)] [1] [0,8,24,25] (An (An (An (zr (Ja6 out)) (zr true)) (An (An (zr (some (Src.same 0))) (zr nilP)) (An (An (zr (some (Src.same 8))) (zr nilP)) (An (An (zr (some (Src.same 32))) (zr nilP)) (An (An (ci (o42 hpre x1 hx1 y7 x8 hx8 y12)) (zr nilN)) tv))))) (An (An (An (zr (OB.cells 26 (cFrm f))) (zr true)) (An (An (zr (OB.cells 26 [iv 0,iv 0,nilv,nilv,nilv])) (zr true)) (An (An (zr 26) (An (An (An (zr (iv f.length)) (zr nilN)) (An (An (zr (iv f.slack)) (zr nilN)) (An (zr (some (Src.same 24))) (An (zr (some (Src.same 25))) (An (zr (some (Src.same 26))) tv))))) (zr true))) (An (An (zr (OB.vec 58 2 f.strips.length fun (i:Nat)=>JaK (stp f i))) (zr true)) (An (An (zr (OB.vec 44 3 f.pieces.length fun (i:Nat)=>JaD (pc f i))) (zr true)) (An (An (zr 27) (An (zr 1) (An (zr f.columns.length) (An (fun (i30:Nat)=>(fun (y31:i30 < f.columns.length)=>(fun (y32:i30 ≠ x1 + 1)=>(zr ([Ja6 (outC f out (x1 + 1) i30)]))))) (An (An (An (zr 1) (An (o43 hpre x1 hx1 y7 x8 hx8 y12) (fun (i33:Nat)=>(fun (y34:i33 < (col f (x1 + 1)).length)=>(o44 hpre x1 hx1 y7 x8 hx8 y12 i33 y34))))) tv) (zr true)))))) tv)))))) (An (zr true) (zr true))))) (o45 hpre x1 hx1 y7 x8 hx8 y12) (o46 hpre x1 hx1 y7 x8 hx8 y12)
 ·refine Jaa ?_
  refine Ja0 ?_
  refine Jbi (zE (st2:=ASt.mk [(1,Ja6 out),(2,AV.ptr 0 []),(4,AV.ptr 8 []),(5,AV.ptr 32 []),(6,iv (x1:Int)),(14,bv (decide ((x1:Int) < (↑(f.columns.length):Int))))] [(26,OB.vec 27 1 f.columns.length fun (k:Nat)=>[Ja6 (col (Jah f out) k)]),(0,OB.cells 26 (cFrm f)),(8,OB.cells 26 [iv 0,iv 0,nilv,nilv,nilv]),(32,OB.cells 26 [iv f.length,iv f.slack,AV.vec 24,AV.vec 25,AV.vec 26]),(24,OB.vec 58 2 f.strips.length fun (i:Nat)=>JaK (stp f i)),(25,OB.vec 44 3 f.pieces.length fun (i:Nat)=>JaD (pc f i))] 10096) hE [] [(0,.same 0),(8,.same 8),(32,.same 32),(24,.same 24),(25,.same 25),(26,.same 26)] [1,6,14] [0,8,24,25] (An (An (An (zr (Ja6 out)) (zr true)) (An (An (zr (some (Src.same 0))) (zr nilP)) (An (An (zr (some (Src.same 8))) (zr nilP)) (An (An (zr (some (Src.same 32))) (zr nilP)) (An (An (zr (iv (x1:Int))) (zr true)) (An (An (zr (bv (decide ((x1:Int) < (↑(f.columns.length):Int))))) (zr true)) tv)))))) (An (An (An (zr 27) (An (zr 1) (An (zr f.columns.length) (An (fun (i35:Nat)=>(fun (y36:i35 < f.columns.length)=>(fun (y37:i35 ≠ x1)=>(o47 hpre x1 hx1 y7 i35 y36 y37)))) (An (An (An (zr 1) (An (o48 hpre x1 hx1 y7) (fun (i38:Nat)=>(fun (y39:i38 < (col (Jah f out) x1).length)=>(o49 hpre x1 hx1 y7 i38 y39))))) tv) (An (zr true) (zr true))))))) (An (An (zr (OB.cells 26 (cFrm f))) (zr true)) (An (An (zr (OB.cells 26 [iv 0,iv 0,nilv,nilv,nilv])) (zr true)) (An (An (zr 26) (An (An (An (zr (iv f.length)) (zr nilN)) (An (An (zr (iv f.slack)) (zr nilN)) (An (zr (some (Src.same 24))) (An (zr (some (Src.same 25))) (An (zr (some (Src.same 26))) tv))))) (zr true))) (An (An (zr (OB.vec 58 2 f.strips.length fun (i:Nat)=>JaK (stp f i))) (zr true)) (An (An (zr (OB.vec 44 3 f.pieces.length fun (i:Nat)=>JaD (pc f i))) (zr true)) tv)))))) (An (zr true) (zr true))))) ?_
  refine zR [4] [8,24,25,26] (Ak 2 tv) ?_
  refine Ja5 ?_
  exact zT [24,25,26] (An (Ak 1 tv) (An (An (An (ci (o50 hpre x1 hx1 y7)) (zr nilN)) (An (An (ci (o51 hpre x1 hx1 y7)) (zr nilN)) (An (An (zr 2) (An (o52 hpre x1 hx1 y7) (fun (i40:Nat)=>(fun (y41:i40 < (Jah f out).strips.length)=>(o53 hpre x1 hx1 y7 i40 y41))))) (An (An (zr 3) (An (o54 hpre x1 hx1 y7) (fun (i42:Nat)=>(fun (y43:i42 < (Jah f out).pieces.length)=>(o55 hpre x1 hx1 y7 i42 y43))))) (An (An (zr 1) (An (o56 hpre x1 hx1 y7) (fun (i44:Nat)=>(fun (y45:i44 < (Jah f out).columns.length)=>(zr ([Ja6 (col (Jah f out) i44)])))))) tv))))) (An (zr true) (An (zr true) (zr true)))))
theorem t33 (f:Frm) (out:List Int):Ja4 Tryz.prog 33 (s33 f out):=by
 apply w33
 all_goals (try delta q4h q4i q4j q4k q4l q4m q4n q4o q4p)
 all_goals (rintro ⟨hp,ho⟩; have hc:=hp.2.2.1)
 case o0=>rfl
 case o1=>intro i hi h0; rfl
 case o2=>exact Nat.zero_le _
 all_goals (intro x hx h; simp only [decide_eq_true_eq,decide_eq_false_iff_not] at h)
 case o47=>intro i hi hij; rw [show x=f.columns.length by omega,Jox hi]
 case o48 =>
  have e:col f x = []:=JbY _ _ (by omega)
  have e2:col (Jah f out) x = []:=by rw [JdG,e]; rfl
  rw [e,e2]
 case o49 =>
  intro i hi
  have e:col f x = []:=JbY _ _ (by omega)
  rw [JdG,e] at hi
  exact absurd hi (Nat.not_lt_zero _)
 case o56=>exact (Jjs f out).symm
 case o50 | o51 | o52 | o54=>rfl
 case o53 | o55=>intro i hi; rfl
 case o3 | o4 | o5=>omega
 case o6 | o7=>rfl
 case o8=>exact Nat.zero_le _
 all_goals (have h4:=hp.2.2.2 x; intro y hy)
 case o9 | o10=>omega
 all_goals (intro h2; simp only [decide_eq_true_eq,decide_eq_false_iff_not] at h2)
 case o38=>intro i hi hij; rw [Jl3 hij]
 case o39=>rw [JmQ,Jdt (by omega)]
 case o40=>intro i hi; rw [JmQ,Jdt (by omega)]
 case o43=>rw [Jik]
 case o44=>intro i hi; rw [Jik]
 case o11 | o12 | o13 | o14 | o41 | o42 | o45 | o46=>first | omega | (simp only [inI]; omega)
 all_goals (intro h3; have hk:=Ji8 (col f x) (isIn out) y)
 case o28=>rw [Jep (by omega) (by simpa using h3),List.length_append]; rfl
 case o29=>intro i hi; rw [Jep (by omega) (by simpa using h3)]; exact Jc4 _ _ 0 (fun z=>[iv z]) rfl (fun _ _=>rfl) rfl hi
 case o34=>rw [Jeo (by omega) (by simpa using h3)]
 case o35=>intro i hi; rw [Jeo (by omega) (by simpa using h3)]
 all_goals (first | omega | (simp only [inI]; omega))
abbrev q4q (f:Frm) (out:List Int) (Pq:Prop):Prop:=Sound f/\Jcv f f.strips.length<=30/\List.length out <= big->Pq
theorem w15 (f:Frm) (out:List Int)
 (o0:q4q f out (Jai f))
 (o1:q4q f out (List.length out <= big))
 (o2:q4q f out (0=(↑0:Int)))
 (o3:q4q f out (Sound (Jah f out)))
 (o4:q4q f out (0<=(Jah f out).columns.length))
 (o5:q4q f out (GoodLeft (Jah f out) (Jar f f.strips.length)))
 (o6:q4q f out (Jak (Jar f f.strips.length)<=30))
 (o7:q4q f out (decide (0 < (↑((Jbk (Jah f out) ((Jah f out).columns.length - 0) (Jar f f.strips.length)).length):Int))=canP f out)) :
  Ja4 Tryz.prog 15 (s15 f out):=by
 refine Ja7 Tryz.func15 rfl Tryz.call15 Jaw _ rfl rfl rfl rfl (Nat.le_of_ble_eq_true (by kernel_rfl)) (fun _ _ _ _ h=>h) ?_
 intro hpre C hC _ hE
 obtain ⟨P,w0,E0,av,hA,ro,df⟩:=C
 obtain ⟨rfl,rfl,rfl⟩:=hC
 refine Ja0 ?_
 refine zR [1,2] [0] (Ak 2 tv) ?_
 refine Ja0 ?_
 refine zC ([(2,CallSpec.eq (s33 f out) [true,true]),(4,CallSpec.eq (s34 f) [true]),(5,CallSpec.eq (c15 f out) [true,false,true])]) [4] [] (Ak 2 (An (An (An (zr (AV.agg (cFrm f))) (An (zr (Ja6 out)) tv)) (An (t33 (f) (out)) (An (An (o0 hpre) (o1 hpre)) (Ak 1 (fun (i0:Env)=>tv))))) (Ak 1 (An (An (An (zr (AV.agg (cFrm f))) tv) (An (t34 (f)) (An hpre.1 (Ak 1 (fun (i1:Env)=>tv))))) (An (An (An (zr (AV.agg (cFrm (Jah f out)))) (An (ci (o2 hpre)) (An (zr (Ja6 (Jar f f.strips.length))) tv))) (An (t32 (Jah f out) (0) (Jar f f.strips.length)) (An (An (o3 hpre) (An (o4 hpre) (An (o5 hpre) (o6 hpre)))) (Ak 1 (fun (i2:Env)=>tv))))) (Ak 3 tv)))))) ?_
 refine Ja5 ?_
 exact zT [] (An (Ak 1 tv) (An (An (cb (o7 hpre)) (zr nilN)) (An (zr true) (An (zr true) (zr true)))))
theorem t15 (f:Frm) (out:List Int):Ja4 Tryz.prog 15 (s15 f out):=by
 apply w15
 all_goals (try delta q4q)
 all_goals (rintro ⟨hs,hpr,ho⟩)
 case o0=>exact Jjq hs
 case o1=>exact ho
 case o2=>rfl
 case o3=>exact JcQ hs out
 case o4=>exact Nat.zero_le _
 case o5=>exact Jil hs out
 case o6=>have:=Jl2 hs _ (Nat.le_refl _); omega
 case o7=>exact (Joy hs out).symm
end Go.Ab
namespace Go.Sh
open Go.Ab
structure Ctr where
 frm:Int
 days:Int
 room:Int
 pence:Int
 deriving DecidableEq,Inhabited
structure Shn where
 ad:Int
 day:Int
 ed:Int
 deriving DecidableEq,Inhabited
structure Sday where
 ad:Int
 day:Int
 deriving DecidableEq,Inhabited
structure Book where
 lines:List Span
 shown:List Shn
 rate:Int
 rep:Int
 ctrs:List Ctr
 deriving DecidableEq,Inhabited
def lnB (b:Book) (i:Nat):Span:=b.lines.getD i default
def shB (b:Book) (i:Nat):Shn:=b.shown.getD i default
def ctB (b:Book) (i:Nat):Ctr:=b.ctrs.getD i default
def isAd (b:Book) (n:Int):Bool:=Ja1 n 0 ((b.lines.length:Int) - 1)
def isCt (b:Book) (n:Int):Bool:=Ja1 n 0 ((b.ctrs.length:Int) - 1)
def JdH (b:Book):Bool:=decide ((b.lines.length:Int)<=3) && decide ((b.shown.length:Int)<=6) && decide ((b.ctrs.length:Int)<=3) && Ja1 b.rate 0 9 && Ja1 b.rep 0 b.rate
def okLn (s:Span):Bool:=Jay s 9
def JcS (b:Book) (i:Nat):Bool:=isAd b (shB b i).ad && Ja1 (shB b i).day 0 13 && Ja1 (shB b i).ed 0 2 && (List.range i).all fun k => !decide (shB b k=shB b i)
def JdI (c:Ctr):Bool:=Ja1 c.frm 0 13 && Ja1 c.days 1 7 && Ja1 c.room 0 99 && Ja1 c.pence 0 99
def JaR (b:Book):Bool:=JdH b && b.lines.all okLn && (List.range b.shown.length).all (JcS b) && b.ctrs.all JdI
def Jcg (b:Book) (ad day:Int):Bool:=b.shown.any fun s=>decide (s.ad=ad) && decide (s.day=day)
def Jka (b:Book) (d:Nat):List Sday:=(List.range b.lines.length).filterMap fun (a:Nat)=>if Jcg b a d then some ⟨a,d⟩ else none
def stds (b:Book):List Sday:=(List.range 14).flatMap (Jka b)
def sdA (b:Book) (i:Nat):Sday:=(stds b).getD i default
structure Desk where
 room:Nat->Int
 used:Nat->Int
 cost:Int
def setF (g:Nat->Int) (k:Nat) (v:Int):Nat->Int:=fun i=>if i=k then v else g i
def JaG (b:Book):Desk:=⟨fun i=>(ctB b i).room,fun _=>0,0⟩
def JeD (b:Book) (s:Sday):Int:=if Jcg b s.ad (s.day - 1) then b.rep else b.rate
def Jb1 (b:Book) (ls:List Int) (s:Sday):Int:=JeD b s * ls.getD s.ad.toNat 0
def Jq6 (c:Ctr) (day:Int):Bool:=Ja1 day c.frm (c.frm + c.days - 1)
def Jb2 (b:Book) (ls:List Int) (d:Desk) (s:Sday) (by_:Int):Desk :=
 if by_ = -1 then { d with cost:=d.cost + Jb1 b ls s }
 else if isCt b by_ then ⟨setF d.room by_.toNat (d.room by_.toNat - ls.getD s.ad.toNat 0),setF d.used by_.toNat (d.used by_.toNat + 1),if d.used by_.toNat + 1=1 then d.cost + (ctB b by_.toNat).pence else d.cost⟩
 else d
def Jbl (b:Book) (ls:List Int) (d:Desk) (s:Sday) (by_:Int):Bool :=
 if by_ = -1 then true
 else isCt b by_ && (Jq6 (ctB b by_.toNat) s.day && decide (0<=d.room by_.toNat - ls.getD s.ad.toNat 0))
abbrev Best:=List Int × Int
def bysB (b:Book):List Int:=(List.range (b.ctrs.length + 1)).map fun (k:Nat)=>(k:Int) - 1
def JaO (b:Book) (ls:List Int):Nat->Desk->List Int->Best->Best
 | 0,d,l,st=>if decide (0<=st.2) && decide (st.2<=d.cost) then st else (l,d.cost)
 | m + 1,d,l,st =>
  if decide (0<=st.2) && decide (st.2<=d.cost) then st
  else (bysB b).foldl (fun st y=>if Jbl b ls d (sdA b l.length) y then JaO b ls m (Jb2 b ls d (sdA b l.length) y) (l ++ [y]) st else st) st
def Jb3 (b:Book) (ls:List Int):Best:=JaO b ls (stds b).length (JaG b) [] ([],-1)
def Jg4 (b:Book) (ls:List Int):Nat->Desk->List Int->List Best
 | 0,d,l=>[(l,d.cost)]
 | m + 1,d,l=>(bysB b).flatMap fun y=>if Jbl b ls d (sdA b l.length) y then Jg4 b ls m (Jb2 b ls d (sdA b l.length) y) (l ++ [y]) else []
def updB (st x:Best):Best:=if decide (0<=st.2) && decide (st.2<=x.2) then st else x
theorem Jim {α:Type} {P:List α->Prop} (h0:P []) (h1:∀ l x,P l->P (l ++ [x])) (l:List α):P l:=by
 have h:∀ m:List α,P m.reverse:=by
  intro m
  induction m with
  | nil=>exact h0
  | cons x m ih=>rw [List.reverse_cons]; exact h1 _ _ ih
 have:=h l.reverse
 rwa [List.reverse_reverse] at this
structure SoundB (b:Book):Prop where
 lines:b.lines.length<=3
 shown:b.shown.length<=6
 ctrs:b.ctrs.length<=3
 rate:0<=b.rep/\b.rep<=b.rate/\b.rate<=9
 line:∀ i,i < b.lines.length->0<=(lnB b i).lo/\(lnB b i).lo<=(lnB b i).hi/\(lnB b i).hi<=9
 show_:∀ i,i < b.shown.length->(0<=(shB b i).ad/\(shB b i).ad < b.lines.length)/\0<=(shB b i).day/\(shB b i).day<=13/\0<=(shB b i).ed/\(shB b i).ed<=2
 ctr:∀ i,i < b.ctrs.length->(0<=(ctB b i).frm/\(ctB b i).frm<=13)/\(1<=(ctB b i).days/\(ctB b i).days<=7)/\(0<=(ctB b i).room/\(ctB b i).room<=99)/\0<=(ctB b i).pence/\(ctB b i).pence<=99
def JaL (b:Book) (ls:List Int):Prop:=ls.length=b.lines.length /\ ∀ i,0<=ls.getD i 0/\ls.getD i 0<=9
theorem Je7 {b:Book} {c:Int} (h:isCt b c=true):0<=c/\c < b.ctrs.length:=by
 unfold isCt at h
 have:=JaB.1 h
 omega
variable {b:Book} {ls:List Int}
theorem Jq7 (hs:SoundB b) (s:Sday):0<=JeD b s/\JeD b s<=9:=by
 have:=hs.rate
 unfold JeD
 split <;> omega
theorem Je8 (hs:SoundB b) (hl:JaL b ls) (s:Sday):0<=Jb1 b ls s/\Jb1 b ls s<=81:=by
 have h1:=Jq7 hs s
 have h2:=hl.2 s.ad.toNat
 unfold Jb1
 refine ⟨Int.mul_nonneg h1.1 h2.1,?_⟩
 calc JeD b s * ls.getD s.ad.toNat 0<=9 * 9:=Int.mul_le_mul h1.2 h2.2 h2.1 (by omega)
  _=81:=by decide
theorem JmT (hs:SoundB b) (hl:JaL b ls) (d:Desk) (s:Sday) (y:Int):d.cost<=(Jb2 b ls d s y).cost/\(Jb2 b ls d s y).cost<=d.cost + 99:=by
 have h1:=Je8 hs hl s
 unfold Jb2
 split
 ·show d.cost<=d.cost + _/\d.cost + _<=_; omega
 ·split
  ·rename_i h
   have h2:=Je7 h
   have h3:=(hs.ctr y.toNat (by omega)).2.2.2
   simp only
   split <;> omega
  ·omega
theorem Joz (hs:SoundB b) (hl:JaL b ls):∀ (m:Nat) (d:Desk) (l:List Int) (x:Best),x ∈ Jg4 b ls m d l->d.cost<=x.2/\x.2<=d.cost + 99 * m:=by
 intro m
 induction m with
 | zero =>
  intro d l x h
  have:x=(l,d.cost):=by simpa [Jg4] using h
  rw [this]; exact ⟨Int.le_refl _,by show d.cost<=_; omega⟩
 | succ m ih =>
  intro d l x h
  rw [Jg4] at h
  obtain ⟨y,_,h⟩:=List.mem_flatMap.1 h
  split at h
  ·have h1:=ih _ _ _ h
   have h2:=JmT hs hl d (sdA b l.length) y
   omega
  ·cases h
theorem JoA {st:Best}:∀ {xs:List Best},(∀ x,x ∈ xs->(decide (0<=st.2) && decide (st.2<=x.2))=true)->xs.foldl updB st=st:=by
 intro xs
 induction xs with
 | nil=>intro _; rfl
 | cons x xs ih =>
  intro h
  rw [List.foldl_cons]
  have:updB st x=st:=by unfold updB; rw [if_pos (h x (by simp))]
  rw [this]
  exact ih (fun y hy=>h y (by simp [hy]))
theorem Jl5 {α:Type} (g:Best->α->Best) (e:α->List Best):∀ (ys:List α) (st:Best),(∀ st y,y ∈ ys->g st y=(e y).foldl updB st)->ys.foldl g st=(ys.flatMap e).foldl updB st:=by
 intro ys
 induction ys with
 | nil=>intro st _; rfl
 | cons y ys ih =>
  intro st h
  rw [List.foldl_cons,List.flatMap_cons,List.foldl_append,h st y (by simp)]
  exact ih _ (fun st z hz=>h st z (by simp [hz]))
theorem JmU (hs:SoundB b) (hl:JaL b ls):∀ (m:Nat) (d:Desk) (l:List Int) (st:Best),JaO b ls m d l st=(Jg4 b ls m d l).foldl updB st:=by
 intro m
 induction m with
 | zero=>intro d l st; rfl
 | succ m ih =>
  intro d l st
  by_cases hp:(decide (0<=st.2) && decide (st.2<=d.cost))=true
  ·rw [JaO,if_pos hp]
   refine (JoA fun x hx => ?_).symm
   have:=Joz hs hl (m + 1) d l x hx
   simp only [Bool.and_eq_true,decide_eq_true_eq] at hp ⊢
   omega
  ·rw [JaO,if_neg hp,Jg4]
   refine Jl5 _ _ _ _ fun st y _ => ?_
   split
   ·exact ih _ _ _
   ·rfl
theorem JmV (hs:SoundB b) (hl:JaL b ls):Jb3 b ls=(Jg4 b ls (stds b).length (JaG b) []).foldl updB ([],-1):=JmU hs hl _ _ _ _
end Go.Sh
namespace Go.Sh
open Go.Ab
def Jin (b:Book):Prop:=b.lines.length<=Go.Ab.big/\b.shown.length<=Go.Ab.big/\b.ctrs.length<=Go.Ab.big
def JaZ (b:Book):Prop:=b.lines.length<=64/\b.shown.length<=64/\b.ctrs.length<=64
def Jas (b:Book):Int:=if JaR b then 0 else 80
def JcZ (b:Book) (is:Bool):Int:=if JaR b then (if is then 0 else 1) else 80
def idxG {α:Type} [DecidableEq α] (l:List α) (x:α):Int:=match l.findIdx? (fun y=>decide (y=x)) with | some i=>i | none => -1
def hasG {α:Type} [DecidableEq α] (l:List α) (x:α):Bool:=l.any fun y=>decide (y=x)
theorem Jgw {α:Type} [DecidableEq α] (d:α) {l:List α} {p:α} {x:Nat} (hx:x < l.length) (h:∀ j,j < x->decide (l.getD j d=p)=false) (hp:decide (l.getD x d=p)=true):idxG l p=x:=by
 have:l.findIdx? (fun y=>decide (y=p))=some x:=by
  rw [List.findIdx?_eq_some_iff_getElem]
  refine ⟨hx,by rw [← Go.Ab.Jaf l d hx]; exact hp,fun j hj => ?_⟩
  rw [← Go.Ab.Jaf l d (by omega),h j hj]; simp
 simp [idxG,this]
theorem Jio {α:Type} [DecidableEq α] (d:α) {l:List α} {p:α} (h:∀ j,j < l.length->decide (l.getD j d=p)=false):idxG l p = -1:=by
 have:l.findIdx? (fun y=>decide (y=p))=none:=by
  rw [List.findIdx?_eq_none_iff]
  intro x hx
  have h1:=Go.Ab.Jh6 l d (fun y=>decide (y=p)) h
  rw [List.any_eq_false] at h1
  simpa using h1 x hx
 simp [idxG,this]
theorem Jkb {α:Type} [DecidableEq α] (l:List α) (x:α):decide (idxG l x ≥ 0)=hasG l x:=by
 unfold idxG hasG
 cases e:l.findIdx? (fun y=>decide (y=x)) with
 | none =>
  rw [List.findIdx?_eq_none_iff] at e
  have:l.any (fun y=>decide (y=x))=false:=by
   rw [List.any_eq_false]; intro y hy; rw [e y hy]; simp
  rw [this]; rfl
 | some i =>
  rw [List.findIdx?_eq_some_iff_getElem] at e
  obtain ⟨h,h1,_⟩:=e
  have:l.any (fun y=>decide (y=x))=true:=List.any_eq_true.2 ⟨_,List.getElem_mem h,h1⟩
  rw [this]
  exact decide_eq_true (show ((i:Nat):Int) ≥ 0 by omega)
def anyW (l:List Int):Bool:=l.any fun n => !Ja1 n 0 9
def JcF (b:Book) (ls:List Int):Bool:=decide (ls.length=b.lines.length) && ls.all fun n=>Ja1 n 0 9
def Jam (b:Book) (ls:List Int) (is:Bool):Int:=JcZ b (is && JcF b ls)
end Go.Sh
namespace Go.En
open Go Go.Ab Go.Sh
def cShn (s:Shn):List AV:=[iv s.ad,iv s.day,iv s.ed]
abbrev vShn (s:Shn):AV := .agg (cShn s)
def cCtr (c:Ctr):List AV:=[iv c.frm,iv c.days,iv c.room,iv c.pence]
def JaJ (s:Sday):List AV:=[iv s.ad,iv s.day]
abbrev JmW (s:Sday):AV := .agg (JaJ s)
def Jl6 (l:List Shn):AV := .sl 3 l.length (fun i=>cShn (l.getD i default))
def JdJ (l:List Sday):AV := .sl 2 l.length (fun i=>JaJ (l.getD i default))
def cBk (b:Book):List AV:=[.sl 2 b.lines.length (fun i=>Jb6 (lnB b i)),.sl 3 b.shown.length (fun i=>cShn (shB b i)),iv b.rate,iv b.rep,.sl 4 b.ctrs.length (fun i=>cCtr (ctB b i))]
abbrev vBk (b:Book):AV := .agg (cBk b)
def cWk (b:Book):List AV:=[.sl 2 b.lines.length (fun i=>Jb6 (lnB b i)),.sl 3 b.shown.length (fun i=>cShn (shB b i)),iv b.rate,iv b.rep,.sl 4 b.ctrs.length (fun i=>cCtr (ctB b i)),JdJ (stds b)]
abbrev vWk (b:Book):AV := .rp (cWk b)
end Go.En
namespace Go.Ab
open Go Go.RowKit Go.Proofs Go.Sh Go.En
abbrev rowS (l:List Sday):OB := .vec 110 2 l.length (fun i=>JaJ (l.getD i default))
def s45 (n lo hi:Int):CallSpec:={ args:=[iv n,iv lo,iv hi],res:=bv (Ja1 n lo hi) }
def s24 (n lo hi:Int):CallSpec:={ args:=[iv n,iv lo,iv hi],res:=bv (Ja1 n lo hi) }
def s25 (b:Book) (n:Int):CallSpec:={ args:=[vBk b,iv n],res:=bv (isAd b n),pre:=Jin b }
def s80 (l:List Shn) (x:Shn):CallSpec:={ args:=[Jl6 l,vShn x],res:=iv (idxG l x),pre:=l.length<=65536 }
def h80 (l:List Shn) (x:Shn):Hint:={ X:=Nat,M:=fun i=>[(8,iv i)],I:=fun i=>i<=l.length /\ ∀ j,j < i->decide (l.getD j default=x)=false,mu:=fun i=>l.length - i,x0:=(0:Nat),nx:=fun i=>i + 1 }
def s71 (l:List Shn) (x:Shn):CallSpec:={ args:=[Jl6 l,vShn x],res:=bv (hasG l x),pre:=l.length<=65536 }
def s94 (l:List Sday) (x:Sday):CallSpec:={ args:=[JdJ l,JmW x],res:=iv (idxG l x),pre:=l.length<=65536 }
def h94 (l:List Sday) (x:Sday):Hint:={ X:=Nat,M:=fun i=>[(8,iv i)],I:=fun i=>i<=l.length /\ ∀ j,j < i->decide (l.getD j default=x)=false,mu:=fun i=>l.length - i,x0:=(0:Nat),nx:=fun i=>i + 1 }
def s79 (l:List Sday) (x:Sday):CallSpec:={ args:=[JdJ l,JmW x],res:=bv (hasG l x),pre:=l.length<=65536 }
def s52 (b:Book):CallSpec:={ args:=[vBk b],res:=iv (Jas b),pre:=JaZ b }
def h52a (b:Book):Hint:={ X:=Nat,M:=fun i=>[(42,iv i)],I:=fun i=>i<=b.lines.length /\ ∀ j,j < i->okLn (lnB b j)=true,mu:=fun i=>b.lines.length - i,x0:=(0:Nat),nx:=fun i=>i + 1 }
def h52b (b:Book):Hint:={ X:=Nat,M:=fun i=>[(61,iv i)],I:=fun i=>i<=b.shown.length /\ ∀ j,j < i->JcS b j=true,mu:=fun i=>b.shown.length - i,x0:=(0:Nat),nx:=fun i=>i + 1 }
def c52 (b:Book) (x:Nat):CallSpec:=s71 (b.shown.take x) (shB b x)
def h52c (b:Book):Hint:={ X:=Nat,M:=fun i=>[(98,iv i)],I:=fun i=>i<=b.ctrs.length /\ ∀ j,j < i->JdI (ctB b j)=true,mu:=fun i=>b.ctrs.length - i,x0:=(0:Nat),nx:=fun i=>i + 1 }
def s9 (b:Book):CallSpec:={ args:=[vBk b],res:=iv (Jas b),pre:=Jin b }
def h9a (b:Book):Hint:={ X:=Nat,M:=fun i=>[(3,iv i)],I:=fun i=>i<=b.lines.length /\ ∀ j,j < i->okLn (lnB b j)=true,mu:=fun i=>b.lines.length - i,x0:=(0:Nat),nx:=fun i=>i + 1 }
def h9b (b:Book):Hint:={ X:=Nat,M:=fun i=>[(4,iv i)],I:=fun i=>i<=b.shown.length /\ ∀ j,j < i->JcS b j=true,mu:=fun i=>b.shown.length - i,x0:=(0:Nat),nx:=fun i=>i + 1 }
def h9c (b:Book) (x:Nat):Hint:={ X:=Nat,M:=fun k=>[(6,iv k)],I:=fun k=>k<=x /\ ∀ j,j < k->decide (shB b j=shB b x)=false,mu:=fun k=>x - k,x0:=(0:Nat),nx:=fun k=>k + 1 }
def h9d (b:Book):Hint:={ X:=Nat,M:=fun i=>[(7,iv i)],I:=fun i=>i<=b.ctrs.length /\ ∀ j,j < i->JdI (ctB b j)=true,mu:=fun i=>b.ctrs.length - i,x0:=(0:Nat),nx:=fun i=>i + 1 }
def c9 (b:Book) (x:Nat):CallSpec:=s18 (lnB b x) 9
def s44 (n:Int):CallSpec:={ args:=[iv n],res:=bv (!Ja1 n 0 9) }
end Go.Ab
