/- PagesTops returns true for every input, and leaves what it was handed as it was. No condition. -/
import Derived.Test.YtpnmalddfpjcoaaQPagesTops4
import Derived.Deep.Slices
import Derived.ChangeShapes
import Derived.Carry
import Derived.OpenShut
import Derived.SizedLaws
import Derived.Test.YtpnmalddfpjcoaaRows
import Derived.ProofKit
import Derived.JoinedOf
set_option linter.all false
set_option linter.deprecated false
namespace Go.Ab
open Go Go.RowKit Go.Proofs Go.Sh Go.En
theorem w26 (f:Frm) (p:Int)
  (o0:smallF f->fitsF f)
  (o1:smallF f->(!decide (openF f (isPc f p)=0))=true->0=growN f p)
  (o2:smallF f->(!decide (openF f (isPc f p)=0))=true->openF f (isPc f p)=growE f p)
  (o3:smallF f->(!decide (openF f (isPc f p)=0))=false -> ∀ (i3:Nat),i3 < List.length (Frm.pieces (openFr f (isPc f p)))->cPiece (pc (openFr f (isPc f p)) i3)=cPiece (List.getD (Frm.pieces (openFr f (isPc f p))) i3 default))
  (o4:smallF f->(!decide (openF f (isPc f p)=0))=false->0 < List.length (Frm.pieces (openFr f (isPc f p))))
  (o5:smallF f->(!decide (openF f (isPc f p)=0))=false->List.length (Frm.pieces (openFr f (isPc f p)))<=60000)
  (o6:smallF f->(!decide (openF f (isPc f p)=0))=false->0<=p)
  (o7:smallF f->(!decide (openF f (isPc f p)=0))=false->p < (↑(List.length (Frm.pieces (openFr f (isPc f p)))):Int))
  (o8:smallF f->(!decide (openF f (isPc f p)=0))=false->Int.toNat p < List.length (Frm.pieces (openFr f (isPc f p))))
  (o9:smallF f->(!decide (openF f (isPc f p)=0))=false -> ∀ (i11:Nat),i11 < List.length (Frm.pieces (openFr f (isPc f p)))->Decidable.rec (fun (h:¬i11=Int.toNat p)=>cPiece (List.getD (Frm.pieces (openFr f (isPc f p))) i11 default)) (fun (h:i11=Int.toNat p)=>[] ++ ([iv (Piece.lo (List.getD (Frm.pieces (openFr f (isPc f p))) (Int.toNat p) default))] ++ ([iv 99] ++ [iv (Piece.pence (List.getD (Frm.pieces (openFr f (isPc f p))) (Int.toNat p) default))]))) (instDecidableEqNat i11 (Int.toNat p))=cPiece (pc (grownF (openFr f (isPc f p)) (Int.toNat p) (99 - (↑0:Int))) i11))
  (o10:smallF f->(!decide (openF f (isPc f p)=0))=false->0<=100 - Int.toNat (Piece.lo (pc (openFr f (isPc f p)) (Int.toNat p))) /\ ∀ (j:Nat),j < 0->Option.isSome (wholeP (grownF (openFr f (isPc f p)) (Int.toNat p) (99 - (↑j:Int))) 0)=false)
  (o11:smallF f->(!decide (openF f (isPc f p)=0))=false -> ∀ (x6:Nat),(x6<=100 - Int.toNat (Piece.lo (pc (openFr f (isPc f p)) (Int.toNat p))) /\ ∀ (j:Nat),j < x6->Option.isSome (wholeP (grownF (openFr f (isPc f p)) (Int.toNat p) (99 - (↑j:Int))) 0)=false)->Int.toNat p < List.length (Frm.pieces (openFr f (isPc f p))))
  (o12:smallF f->(!decide (openF f (isPc f p)=0))=false -> ∀ (x6:Nat),(x6<=100 - Int.toNat (Piece.lo (pc (openFr f (isPc f p)) (Int.toNat p))) /\ ∀ (j:Nat),j < x6->Option.isSome (wholeP (grownF (openFr f (isPc f p)) (Int.toNat p) (99 - (↑j:Int))) 0)=false)->Int.toNat p < List.length (Frm.pieces (openFr f (isPc f p))))
  (o13:smallF f->(!decide (openF f (isPc f p)=0))=false -> ∀ (x6:Nat),(x6<=100 - Int.toNat (Piece.lo (pc (openFr f (isPc f p)) (Int.toNat p))) /\ ∀ (j:Nat),j < x6->Option.isSome (wholeP (grownF (openFr f (isPc f p)) (Int.toNat p) (99 - (↑j:Int))) 0)=false)->decide (Piece.lo (pc (grownF (openFr f (isPc f p)) (Int.toNat p) (99 - (↑x6:Int))) (Int.toNat p))<=Piece.hi (pc (grownF (openFr f (isPc f p)) (Int.toNat p) (99 - (↑x6:Int))) (Int.toNat p)))=true->Frm.length (openFr f (isPc f p))=Frm.length (grownF (openFr f (isPc f p)) (Int.toNat p) (99 - (↑x6:Int))))
  (o14:smallF f->(!decide (openF f (isPc f p)=0))=false -> ∀ (x6:Nat),(x6<=100 - Int.toNat (Piece.lo (pc (openFr f (isPc f p)) (Int.toNat p))) /\ ∀ (j:Nat),j < x6->Option.isSome (wholeP (grownF (openFr f (isPc f p)) (Int.toNat p) (99 - (↑j:Int))) 0)=false)->decide (Piece.lo (pc (grownF (openFr f (isPc f p)) (Int.toNat p) (99 - (↑x6:Int))) (Int.toNat p))<=Piece.hi (pc (grownF (openFr f (isPc f p)) (Int.toNat p) (99 - (↑x6:Int))) (Int.toNat p)))=true->Frm.slack (openFr f (isPc f p))=Frm.slack (grownF (openFr f (isPc f p)) (Int.toNat p) (99 - (↑x6:Int))))
  (o15:smallF f->(!decide (openF f (isPc f p)=0))=false -> ∀ (x6:Nat),(x6<=100 - Int.toNat (Piece.lo (pc (openFr f (isPc f p)) (Int.toNat p))) /\ ∀ (j:Nat),j < x6->Option.isSome (wholeP (grownF (openFr f (isPc f p)) (Int.toNat p) (99 - (↑j:Int))) 0)=false)->decide (Piece.lo (pc (grownF (openFr f (isPc f p)) (Int.toNat p) (99 - (↑x6:Int))) (Int.toNat p))<=Piece.hi (pc (grownF (openFr f (isPc f p)) (Int.toNat p) (99 - (↑x6:Int))) (Int.toNat p)))=true->List.length (Frm.strips (openFr f (isPc f p)))=List.length (Frm.strips (grownF (openFr f (isPc f p)) (Int.toNat p) (99 - (↑x6:Int)))))
  (o16:smallF f->(!decide (openF f (isPc f p)=0))=false -> ∀ (x6:Nat),(x6<=100 - Int.toNat (Piece.lo (pc (openFr f (isPc f p)) (Int.toNat p))) /\ ∀ (j:Nat),j < x6->Option.isSome (wholeP (grownF (openFr f (isPc f p)) (Int.toNat p) (99 - (↑j:Int))) 0)=false)->decide (Piece.lo (pc (grownF (openFr f (isPc f p)) (Int.toNat p) (99 - (↑x6:Int))) (Int.toNat p))<=Piece.hi (pc (grownF (openFr f (isPc f p)) (Int.toNat p) (99 - (↑x6:Int))) (Int.toNat p)))=true -> ∀ (i14:Nat),i14 < List.length (Frm.strips (grownF (openFr f (isPc f p)) (Int.toNat p) (99 - (↑x6:Int))))->cStrip (stp (openFr f (isPc f p)) i14)=cStrip (stp (grownF (openFr f (isPc f p)) (Int.toNat p) (99 - (↑x6:Int))) i14))
  (o17:smallF f->(!decide (openF f (isPc f p)=0))=false -> ∀ (x6:Nat),(x6<=100 - Int.toNat (Piece.lo (pc (openFr f (isPc f p)) (Int.toNat p))) /\ ∀ (j:Nat),j < x6->Option.isSome (wholeP (grownF (openFr f (isPc f p)) (Int.toNat p) (99 - (↑j:Int))) 0)=false)->decide (Piece.lo (pc (grownF (openFr f (isPc f p)) (Int.toNat p) (99 - (↑x6:Int))) (Int.toNat p))<=Piece.hi (pc (grownF (openFr f (isPc f p)) (Int.toNat p) (99 - (↑x6:Int))) (Int.toNat p)))=true->List.length (Frm.columns (openFr f (isPc f p)))=List.length (Frm.columns (grownF (openFr f (isPc f p)) (Int.toNat p) (99 - (↑x6:Int)))))
  (o18:smallF f->(!decide (openF f (isPc f p)=0))=false -> ∀ (x6:Nat),(x6<=100 - Int.toNat (Piece.lo (pc (openFr f (isPc f p)) (Int.toNat p))) /\ ∀ (j:Nat),j < x6->Option.isSome (wholeP (grownF (openFr f (isPc f p)) (Int.toNat p) (99 - (↑j:Int))) 0)=false)->decide (Piece.lo (pc (grownF (openFr f (isPc f p)) (Int.toNat p) (99 - (↑x6:Int))) (Int.toNat p))<=Piece.hi (pc (grownF (openFr f (isPc f p)) (Int.toNat p) (99 - (↑x6:Int))) (Int.toNat p)))=true -> ∀ (i16:Nat),i16 < List.length (Frm.columns (grownF (openFr f (isPc f p)) (Int.toNat p) (99 - (↑x6:Int)))) -> [aInts (col (openFr f (isPc f p)) i16)] = [aInts (col (grownF (openFr f (isPc f p)) (Int.toNat p) (99 - (↑x6:Int))) i16)])
  (o19:smallF f->(!decide (openF f (isPc f p)=0))=false -> ∀ (x6:Nat),(x6<=100 - Int.toNat (Piece.lo (pc (openFr f (isPc f p)) (Int.toNat p))) /\ ∀ (j:Nat),j < x6->Option.isSome (wholeP (grownF (openFr f (isPc f p)) (Int.toNat p) (99 - (↑j:Int))) 0)=false)->decide (Piece.lo (pc (grownF (openFr f (isPc f p)) (Int.toNat p) (99 - (↑x6:Int))) (Int.toNat p))<=Piece.hi (pc (grownF (openFr f (isPc f p)) (Int.toNat p) (99 - (↑x6:Int))) (Int.toNat p)))=true->Sound (grownF (openFr f (isPc f p)) (Int.toNat p) (99 - (↑x6:Int))))
  (o20:smallF f->(!decide (openF f (isPc f p)=0))=false -> ∀ (x6:Nat),(x6<=100 - Int.toNat (Piece.lo (pc (openFr f (isPc f p)) (Int.toNat p))) /\ ∀ (j:Nat),j < x6->Option.isSome (wholeP (grownF (openFr f (isPc f p)) (Int.toNat p) (99 - (↑j:Int))) 0)=false)->decide (Piece.lo (pc (grownF (openFr f (isPc f p)) (Int.toNat p) (99 - (↑x6:Int))) (Int.toNat p))<=Piece.hi (pc (grownF (openFr f (isPc f p)) (Int.toNat p) (99 - (↑x6:Int))) (Int.toNat p)))=true->some (OB.vec 46 3 (List.length (Frm.pieces (openFr f (isPc f p)))) fun (i:Nat)=>cPiece (pc (grownF (openFr f (isPc f p)) (Int.toNat p) (99 - (↑x6:Int))) i))=some (OB.vec 46 3 (List.length (Frm.pieces (grownF (openFr f (isPc f p)) (Int.toNat p) (99 - (↑x6:Int))))) fun (i:Nat)=>cPiece (pc (grownF (openFr f (isPc f p)) (Int.toNat p) (99 - (↑x6:Int))) i)))
  (o21:smallF f->(!decide (openF f (isPc f p)=0))=false -> ∀ (x6:Nat),(x6<=100 - Int.toNat (Piece.lo (pc (openFr f (isPc f p)) (Int.toNat p))) /\ ∀ (j:Nat),j < x6->Option.isSome (wholeP (grownF (openFr f (isPc f p)) (Int.toNat p) (99 - (↑j:Int))) 0)=false)->decide (Piece.lo (pc (grownF (openFr f (isPc f p)) (Int.toNat p) (99 - (↑x6:Int))) (Int.toNat p))<=Piece.hi (pc (grownF (openFr f (isPc f p)) (Int.toNat p) (99 - (↑x6:Int))) (Int.toNat p)))=true->(!!Option.isSome (wholeP (grownF (openFr f (isPc f p)) (Int.toNat p) (99 - (↑x6:Int))) 0))=true->Int.toNat p < List.length (Frm.pieces (grownF (openFr f (isPc f p)) (Int.toNat p) (99 - (↑x6:Int)))))
  (o22:smallF f->(!decide (openF f (isPc f p)=0))=false -> ∀ (x6:Nat),(x6<=100 - Int.toNat (Piece.lo (pc (openFr f (isPc f p)) (Int.toNat p))) /\ ∀ (j:Nat),j < x6->Option.isSome (wholeP (grownF (openFr f (isPc f p)) (Int.toNat p) (99 - (↑j:Int))) 0)=false)->decide (Piece.lo (pc (grownF (openFr f (isPc f p)) (Int.toNat p) (99 - (↑x6:Int))) (Int.toNat p))<=Piece.hi (pc (grownF (openFr f (isPc f p)) (Int.toNat p) (99 - (↑x6:Int))) (Int.toNat p)))=true->(!!Option.isSome (wholeP (grownF (openFr f (isPc f p)) (Int.toNat p) (99 - (↑x6:Int))) 0))=true->Piece.hi (pc (grownF (openFr f (isPc f p)) (Int.toNat p) (99 - (↑x6:Int))) (Int.toNat p))=growN f p)
  (o23:smallF f->(!decide (openF f (isPc f p)=0))=false -> ∀ (x6:Nat),(x6<=100 - Int.toNat (Piece.lo (pc (openFr f (isPc f p)) (Int.toNat p))) /\ ∀ (j:Nat),j < x6->Option.isSome (wholeP (grownF (openFr f (isPc f p)) (Int.toNat p) (99 - (↑j:Int))) 0)=false)->decide (Piece.lo (pc (grownF (openFr f (isPc f p)) (Int.toNat p) (99 - (↑x6:Int))) (Int.toNat p))<=Piece.hi (pc (grownF (openFr f (isPc f p)) (Int.toNat p) (99 - (↑x6:Int))) (Int.toNat p)))=true->(!!Option.isSome (wholeP (grownF (openFr f (isPc f p)) (Int.toNat p) (99 - (↑x6:Int))) 0))=true->0=growE f p)
  (o24:smallF f->(!decide (openF f (isPc f p)=0))=false -> ∀ (x6:Nat),(x6<=100 - Int.toNat (Piece.lo (pc (openFr f (isPc f p)) (Int.toNat p))) /\ ∀ (j:Nat),j < x6->Option.isSome (wholeP (grownF (openFr f (isPc f p)) (Int.toNat p) (99 - (↑j:Int))) 0)=false)->decide (Piece.lo (pc (grownF (openFr f (isPc f p)) (Int.toNat p) (99 - (↑x6:Int))) (Int.toNat p))<=Piece.hi (pc (grownF (openFr f (isPc f p)) (Int.toNat p) (99 - (↑x6:Int))) (Int.toNat p)))=true->(!!Option.isSome (wholeP (grownF (openFr f (isPc f p)) (Int.toNat p) (99 - (↑x6:Int))) 0))=false->Int.toNat p < List.length (Frm.pieces (grownF (openFr f (isPc f p)) (Int.toNat p) (99 - (↑x6:Int)))))
  (o25:smallF f->(!decide (openF f (isPc f p)=0))=false -> ∀ (x6:Nat),(x6<=100 - Int.toNat (Piece.lo (pc (openFr f (isPc f p)) (Int.toNat p))) /\ ∀ (j:Nat),j < x6->Option.isSome (wholeP (grownF (openFr f (isPc f p)) (Int.toNat p) (99 - (↑j:Int))) 0)=false)->decide (Piece.lo (pc (grownF (openFr f (isPc f p)) (Int.toNat p) (99 - (↑x6:Int))) (Int.toNat p))<=Piece.hi (pc (grownF (openFr f (isPc f p)) (Int.toNat p) (99 - (↑x6:Int))) (Int.toNat p)))=true->(!!Option.isSome (wholeP (grownF (openFr f (isPc f p)) (Int.toNat p) (99 - (↑x6:Int))) 0))=false->inI (Piece.hi (pc (grownF (openFr f (isPc f p)) (Int.toNat p) (99 - (↑x6:Int))) (Int.toNat p)) - 1))
  (o26:smallF f->(!decide (openF f (isPc f p)=0))=false -> ∀ (x6:Nat),(x6<=100 - Int.toNat (Piece.lo (pc (openFr f (isPc f p)) (Int.toNat p))) /\ ∀ (j:Nat),j < x6->Option.isSome (wholeP (grownF (openFr f (isPc f p)) (Int.toNat p) (99 - (↑j:Int))) 0)=false)->decide (Piece.lo (pc (grownF (openFr f (isPc f p)) (Int.toNat p) (99 - (↑x6:Int))) (Int.toNat p))<=Piece.hi (pc (grownF (openFr f (isPc f p)) (Int.toNat p) (99 - (↑x6:Int))) (Int.toNat p)))=true->(!!Option.isSome (wholeP (grownF (openFr f (isPc f p)) (Int.toNat p) (99 - (↑x6:Int))) 0))=false->Int.toNat p < List.length (Frm.pieces (grownF (openFr f (isPc f p)) (Int.toNat p) (99 - (↑x6:Int)))))
  (o27:smallF f->(!decide (openF f (isPc f p)=0))=false -> ∀ (x6:Nat),(x6<=100 - Int.toNat (Piece.lo (pc (openFr f (isPc f p)) (Int.toNat p))) /\ ∀ (j:Nat),j < x6->Option.isSome (wholeP (grownF (openFr f (isPc f p)) (Int.toNat p) (99 - (↑j:Int))) 0)=false)->decide (Piece.lo (pc (grownF (openFr f (isPc f p)) (Int.toNat p) (99 - (↑x6:Int))) (Int.toNat p))<=Piece.hi (pc (grownF (openFr f (isPc f p)) (Int.toNat p) (99 - (↑x6:Int))) (Int.toNat p)))=true->(!!Option.isSome (wholeP (grownF (openFr f (isPc f p)) (Int.toNat p) (99 - (↑x6:Int))) 0))=false->List.length (Frm.pieces (grownF (openFr f (isPc f p)) (Int.toNat p) (99 - (↑x6:Int))))=List.length (Frm.pieces (openFr f (isPc f p))))
  (o28:smallF f->(!decide (openF f (isPc f p)=0))=false -> ∀ (x6:Nat),(x6<=100 - Int.toNat (Piece.lo (pc (openFr f (isPc f p)) (Int.toNat p))) /\ ∀ (j:Nat),j < x6->Option.isSome (wholeP (grownF (openFr f (isPc f p)) (Int.toNat p) (99 - (↑j:Int))) 0)=false)->decide (Piece.lo (pc (grownF (openFr f (isPc f p)) (Int.toNat p) (99 - (↑x6:Int))) (Int.toNat p))<=Piece.hi (pc (grownF (openFr f (isPc f p)) (Int.toNat p) (99 - (↑x6:Int))) (Int.toNat p)))=true->(!!Option.isSome (wholeP (grownF (openFr f (isPc f p)) (Int.toNat p) (99 - (↑x6:Int))) 0))=false -> ∀ (i24:Nat),i24 < List.length (Frm.pieces (grownF (openFr f (isPc f p)) (Int.toNat p) (99 - (↑x6:Int))))->Decidable.rec (fun (h:¬i24=Int.toNat p)=>cPiece (pc (grownF (openFr f (isPc f p)) (Int.toNat p) (99 - (↑x6:Int))) i24)) (fun (h:i24=Int.toNat p)=>[] ++ ([iv (Piece.lo (pc (grownF (openFr f (isPc f p)) (Int.toNat p) (99 - (↑x6:Int))) (Int.toNat p)))] ++ ([iv (Piece.hi (pc (grownF (openFr f (isPc f p)) (Int.toNat p) (99 - (↑x6:Int))) (Int.toNat p)) - 1)] ++ [iv (Piece.pence (pc (grownF (openFr f (isPc f p)) (Int.toNat p) (99 - (↑x6:Int))) (Int.toNat p)))]))) (instDecidableEqNat i24 (Int.toNat p))=cPiece (pc (grownF (openFr f (isPc f p)) (Int.toNat p) (99 - (↑(x6 + 1):Int))) i24))
  (o29:smallF f->(!decide (openF f (isPc f p)=0))=false -> ∀ (x6:Nat),(x6<=100 - Int.toNat (Piece.lo (pc (openFr f (isPc f p)) (Int.toNat p))) /\ ∀ (j:Nat),j < x6->Option.isSome (wholeP (grownF (openFr f (isPc f p)) (Int.toNat p) (99 - (↑j:Int))) 0)=false)->decide (Piece.lo (pc (grownF (openFr f (isPc f p)) (Int.toNat p) (99 - (↑x6:Int))) (Int.toNat p))<=Piece.hi (pc (grownF (openFr f (isPc f p)) (Int.toNat p) (99 - (↑x6:Int))) (Int.toNat p)))=true->(!!Option.isSome (wholeP (grownF (openFr f (isPc f p)) (Int.toNat p) (99 - (↑x6:Int))) 0))=false->x6 + 1<=100 - Int.toNat (Piece.lo (pc (openFr f (isPc f p)) (Int.toNat p))) /\ ∀ (j:Nat),j < x6 + 1->Option.isSome (wholeP (grownF (openFr f (isPc f p)) (Int.toNat p) (99 - (↑j:Int))) 0)=false)
  (o30:smallF f->(!decide (openF f (isPc f p)=0))=false -> ∀ (x6:Nat),(x6<=100 - Int.toNat (Piece.lo (pc (openFr f (isPc f p)) (Int.toNat p))) /\ ∀ (j:Nat),j < x6->Option.isSome (wholeP (grownF (openFr f (isPc f p)) (Int.toNat p) (99 - (↑j:Int))) 0)=false)->decide (Piece.lo (pc (grownF (openFr f (isPc f p)) (Int.toNat p) (99 - (↑x6:Int))) (Int.toNat p))<=Piece.hi (pc (grownF (openFr f (isPc f p)) (Int.toNat p) (99 - (↑x6:Int))) (Int.toNat p)))=true->(!!Option.isSome (wholeP (grownF (openFr f (isPc f p)) (Int.toNat p) (99 - (↑x6:Int))) 0))=false->100 - (x6 + 1) < 100 - x6)
  (o31:smallF f->(!decide (openF f (isPc f p)=0))=false -> ∀ (x6:Nat),(x6<=100 - Int.toNat (Piece.lo (pc (openFr f (isPc f p)) (Int.toNat p))) /\ ∀ (j:Nat),j < x6->Option.isSome (wholeP (grownF (openFr f (isPc f p)) (Int.toNat p) (99 - (↑j:Int))) 0)=false)->decide (Piece.lo (pc (grownF (openFr f (isPc f p)) (Int.toNat p) (99 - (↑x6:Int))) (Int.toNat p))<=Piece.hi (pc (grownF (openFr f (isPc f p)) (Int.toNat p) (99 - (↑x6:Int))) (Int.toNat p)))=false->0=growN f p)
  (o32:smallF f->(!decide (openF f (isPc f p)=0))=false -> ∀ (x6:Nat),(x6<=100 - Int.toNat (Piece.lo (pc (openFr f (isPc f p)) (Int.toNat p))) /\ ∀ (j:Nat),j < x6->Option.isSome (wholeP (grownF (openFr f (isPc f p)) (Int.toNat p) (99 - (↑j:Int))) 0)=false)->decide (Piece.lo (pc (grownF (openFr f (isPc f p)) (Int.toNat p) (99 - (↑x6:Int))) (Int.toNat p))<=Piece.hi (pc (grownF (openFr f (isPc f p)) (Int.toNat p) (99 - (↑x6:Int))) (Int.toNat p)))=false->3=growE f p) :
  Triple Try.prog 26 (s26 f p):=by
 refine triple_of Try.func26 rfl Try.call26 T0_ok _ rfl rfl rfl rfl (Nat.le_of_ble_eq_true (by kernel_rfl)) (fun _ _ _ _ h=>h) ?_
 intro hpre C hC _ hE
 obtain ⟨P,w0,E0,av,hA,ro,df⟩:=C
 obtain ⟨rfl,rfl,rfl⟩:=hC
 refine swp_seq ?_
 refine zR [1,2] [0] (Ak 3 tv) ?_
 refine swp_seq ?_
 refine zC ([(3,CallSpec.eq (s88 f p) [true,true]),(4,CallSpec.eq (s83 f (isPc f p)) [true,true])]) [1,6,7] [88] (Ak 3 (An (An (An (zr (AV.agg (cFrm f))) (An (zr (iv p)) tv)) (An (t88 (f) (p)) (An (o0 hpre) (Ak 1 (fun (i0:Env)=>tv))))) (An (An (An (zr (AV.agg (cFrm f))) (An (zr (bv (isPc f p))) tv)) (An (t83 (f) (isPc f p)) (An hpre (Ak 1 (fun (i1:Env)=>tv))))) (Ak 6 tv)))) ?_
 refine swp_seq ?_
 refine swp_seq ?_
 refine zR [1,6,7,18] [88] (Ak 2 tv) ?_
 refine zI (!decide (openF f (isPc f p)=0)) (fun y2 => ?_) (fun y2 => ?_)
 ·refine swp_seq ?_
  refine zR [4,5] [] (Ak 3 tv) ?_
  refine swp_ret ?_
  exact zT [] (An (Ak 2 tv) (An (An (An (ci (o1 hpre y2)) (zr nilN)) (An (An (ci (o2 hpre y2)) (zr nilN)) tv)) (An (zr true) (An (zr true) (zr true)))))
 ·refine swp_skip ?_
  refine swp_seq ?_
  refine zC ([(3,CallSpec.eq (c26c f p) [false])]) [1,6] [88,152] (Ak 3 (An (An (An (An (zr 3) (An (zr (List.length (Frm.pieces (openFr f (isPc f p))))) (fun (i3:Nat)=>(fun (y4:i3 < List.length (Frm.pieces (openFr f (isPc f p))))=>(o3 hpre y2 i3 y4))))) tv) (An (t89o (Frm.pieces (openFr f (isPc f p))) (152)) (An (An (o4 hpre y2) (o5 hpre y2)) (Ak 1 (fun (i5:Env)=>tv))))) (Ak 3 tv))) ?_
  refine swp_seq ?_
  refine zR [6,8] [88,152] (Ak 4 (An (An (o6 hpre y2) (o7 hpre y2)) (Ak 2 tv))) ?_
  refine swp_seq ?_
  refine swp_seq ?_
  refine zR [6,8] [88,152] (Ak 3 (An (An (o8 hpre y2) tv) tv)) ?_
  refine swp_block ?_
  refine zL (Hint.ann (h26 f p) [(6,AV.ptr 88 []),(8,AV.vp 152 (Int.toNat p) 3 [PS.fld 0])] [(88,OB.cells 101 [iv (Frm.length (openFr f (isPc f p))),iv (Frm.slack (openFr f (isPc f p))),AV.sl 2 (List.length (Frm.strips (openFr f (isPc f p)))) fun (i:Nat)=>cStrip (stp (openFr f (isPc f p)) i),AV.vec 152,AV.sl 1 (List.length (Frm.columns (openFr f (isPc f p)))) fun (i:Nat)=>[aInts (col (openFr f (isPc f p)) i)]])] 10272) (zE hE [] [(88,.same 88),(152,.same 152)] [] [] (An (An (An (zr (some (Src.same 88))) (zr nilP)) (An (An (zr (some (Src.same 152))) (An (zr (Int.toNat p)) (An (zr 3) (zr ([PS.fld 0]))))) tv)) (An (An (An (zr 101) (An (An (An (zr (iv (Frm.length (openFr f (isPc f p))))) (zr nilN)) (An (An (zr (iv (Frm.slack (openFr f (isPc f p))))) (zr nilN)) (An (An (zr 2) (An (zr (List.length (Frm.strips (openFr f (isPc f p))))) (fun (i7:Nat)=>(fun (y8:i7 < List.length (Frm.strips (openFr f (isPc f p))))=>(zr (cStrip (stp (openFr f (isPc f p)) i7))))))) (An (zr (some (Src.same 152))) (An (An (zr 1) (An (zr (List.length (Frm.columns (openFr f (isPc f p))))) (fun (i9:Nat)=>(fun (y10:i9 < List.length (Frm.columns (openFr f (isPc f p))))=>(zr ([aInts (col (openFr f (isPc f p)) i9)])))))) tv))))) (zr true))) (An (An (zr 46) (An (zr 3) (An (zr (List.length (Frm.pieces (openFr f (isPc f p))))) (fun (i11:Nat)=>(fun (y12:i11 < List.length (Frm.pieces (openFr f (isPc f p))))=>(o9 hpre y2 i11 y12)))))) tv)) (An (zr true) (zr true))))) (o10 hpre y2) (fun (x6:Nat) hx6 => ?_)
  refine swp_seq ?_
  refine swp_seq ?_
  refine zR [6,8,43] [88,152] (Ak 3 (An (An (o11 hpre y2 x6 hx6) tv) (Ak 3 (An (An (o12 hpre y2 x6 hx6) tv) (Ak 1 tv))))) ?_
  refine zI (decide (Piece.lo (pc (grownF (openFr f (isPc f p)) (Int.toNat p) (99 - (↑x6:Int))) (Int.toNat p))<=Piece.hi (pc (grownF (openFr f (isPc f p)) (Int.toNat p) (99 - (↑x6:Int))) (Int.toNat p)))) (fun y13 => ?_) (fun y13 => ?_)
  ·refine swp_skip ?_
   refine swp_seq ?_
   refine swp_block ?_
   refine swp_seq ?_
   refine zC ([(1,CallSpec.eq (c26w f p x6) [false,true])]) [6,8,53] [88,152] (Ak 1 (An (An (An (An (ci (o13 hpre y2 x6 hx6 y13)) (An (ci (o14 hpre y2 x6 hx6 y13)) (An (An (zr 2) (An (o15 hpre y2 x6 hx6 y13) (fun (i14:Nat)=>(fun (y15:i14 < List.length (Frm.strips (grownF (openFr f (isPc f p)) (Int.toNat p) (99 - (↑x6:Int)))))=>(o16 hpre y2 x6 hx6 y13 i14 y15))))) (An (zr (AV.vec 152)) (An (An (zr 1) (An (o17 hpre y2 x6 hx6 y13) (fun (i16:Nat)=>(fun (y17:i16 < List.length (Frm.columns (grownF (openFr f (isPc f p)) (Int.toNat p) (99 - (↑x6:Int)))))=>(o18 hpre y2 x6 hx6 y13 i16 y17))))) tv))))) (An (zr (iv 0)) tv)) (An (lendT 46 152 0 (some 3) (t90w (grownF (openFr f (isPc f p)) (Int.toNat p) (99 - (↑x6:Int))) (0))) (An (An (o19 hpre y2 x6 hx6 y13) (An (by decide:Int.ofNat 0<=Int.ofNat 0) (by decide:Int.ofNat 0<=Int.ofNat 1000))) (An (An (o20 hpre y2 x6 hx6 y13) tv) (fun (i18:Env)=>tv))))) (Ak 1 tv))) ?_
   refine zI (!!Option.isSome (wholeP (grownF (openFr f (isPc f p)) (Int.toNat p) (99 - (↑x6:Int))) 0)) (fun y19 => ?_) (fun y19 => ?_)
   ·refine swp_seq ?_
    refine zR [4,5] [] (Ak 3 (An (An (o21 hpre y2 x6 hx6 y13 y19) tv) (Ak 2 tv))) ?_
    refine swp_ret ?_
    exact zT [] (An (Ak 2 tv) (An (An (An (ci (o22 hpre y2 x6 hx6 y13 y19)) (zr nilN)) (An (An (ci (o23 hpre y2 x6 hx6 y13 y19)) (zr nilN)) tv)) (An (zr true) (An (zr true) (zr true)))))
   ·refine swp_skip ?_
    refine zR [6,8] [88,152] (Ak 3 (An (An (o24 hpre y2 x6 hx6 y13 y19) tv) (An (o25 hpre y2 x6 hx6 y13 y19) (Ak 2 (An (An (o26 hpre y2 x6 hx6 y13 y19) tv) tv))))) ?_
    exact zn (zE hE [] [(88,.same 88),(152,.same 152)] [] [] (An (An (An (zr (some (Src.same 88))) (zr nilP)) (An (An (zr (some (Src.same 152))) (An (zr (Int.toNat p)) (An (zr 3) (zr ([PS.fld 0]))))) tv)) (An (An (An (zr 101) (An (An (An (zr (iv (Frm.length (openFr f (isPc f p))))) (zr nilN)) (An (An (zr (iv (Frm.slack (openFr f (isPc f p))))) (zr nilN)) (An (An (zr 2) (An (zr (List.length (Frm.strips (openFr f (isPc f p))))) (fun (i20:Nat)=>(fun (y21:i20 < List.length (Frm.strips (openFr f (isPc f p))))=>(zr (cStrip (stp (openFr f (isPc f p)) i20))))))) (An (zr (some (Src.same 152))) (An (An (zr 1) (An (zr (List.length (Frm.columns (openFr f (isPc f p))))) (fun (i22:Nat)=>(fun (y23:i22 < List.length (Frm.columns (openFr f (isPc f p))))=>(zr ([aInts (col (openFr f (isPc f p)) i22)])))))) tv))))) (zr true))) (An (An (zr 46) (An (zr 3) (An (o27 hpre y2 x6 hx6 y13 y19) (fun (i24:Nat)=>(fun (y25:i24 < List.length (Frm.pieces (grownF (openFr f (isPc f p)) (Int.toNat p) (99 - (↑x6:Int)))))=>(o28 hpre y2 x6 hx6 y13 y19 i24 y25)))))) tv)) (An (zr true) (zr true))))) (o29 hpre y2 x6 hx6 y13 y19) (o30 hpre y2 x6 hx6 y13 y19)
  ·refine swp_exit ?_
   refine swp_seq ?_
   refine zR [4,5] [] (Ak 2 tv) ?_
   refine swp_ret ?_
   exact zT [] (An (Ak 2 tv) (An (An (An (ci (o31 hpre y2 x6 hx6 y13)) (zr nilN)) (An (An (ci (o32 hpre y2 x6 hx6 y13)) (zr nilN)) tv)) (An (zr true) (An (zr true) (zr true)))))
theorem t26 (f:Frm) (p:Int):Triple Try.prog 26 (s26 f p):=by
 apply w26
 case o0=>exact fun hp=>small_fits hp
 all_goals (intro hp h)
 case o1=>have e:=gate_bad h; simp [growN,growG,e]
 case o2=>have e:=gate_bad h; simp [growE,growG,e]
 all_goals (obtain ⟨e1,e0,e2,e3,e4⟩:=gate_ok h; (try rw [e2]))
 all_goals (have hc:=isPc_get e0; have hn:p.toNat < f.pieces.length:=by omega)
 all_goals (have hpc:=e3.piece p.toNat hn; have hg:growG f p=true:=by simp [growG,e1,e0])
 case o3=>intro i _; rfl
 case o4=>omega
 case o5=>have:=e3.pieces; omega
 case o6=>exact hc.1
 case o7=>exact hc.2
 case o8=>exact hn
 case o9 =>
  intro i hi
  rw [grown_pc _ hn]
  refine rec_ei (fun h => ?_) (fun h => ?_)
  ·rw [if_neg h]; rfl
  ·rw [if_pos h]; rfl
 case o10=>exact ⟨Nat.zero_le _,fun j hj=>absurd hj (Nat.not_lt_zero _)⟩
 all_goals (intro x hx; obtain ⟨h1,h2⟩:=hx)
 all_goals (try rw [grown_len])
 all_goals (try exact hn)
 all_goals (intro hl; rw [grown_pc _ hn,if_pos rfl] at hl; try simp only [decide_eq_true_eq,decide_eq_false_iff_not] at hl)
 case o31 | o32 =>
  have hk:growK f p.toNat=none:=grow_none (fun j hj=>h2 j (by omega))
  first | (simp [growN,hg,hk]; done) | (simp [growE,hg,hk]; done)
 all_goals (have hx1:x < 100 - (pc f p.toNat).lo.toNat:=by omega)
 all_goals (try (first | rfl | (intro i _; rfl)))
 case o19=>exact grown_sound e3 hn (by omega) (by omega)
 all_goals (intro hw)
 case o21 | o24 | o26=>(try rw [grown_len]); exact hn
 case o27=>first | rfl | rw [grown_len]
 case o22 =>
  have hk:=grow_hit hx1 h2 (by simpa using hw)
  rw [grown_pc _ hn,if_pos rfl]; simp [growN,hg,hk]
 case o23 =>
  have hk:=grow_hit hx1 h2 (by simpa using hw)
  simp [growE,hg,hk]
 case o25=>rw [grown_pc _ hn,if_pos rfl]; exact ⟨by show _<=99 - (x:Int) - 1; omega,by show 99 - (x:Int) - 1<=_; omega⟩
 case o28 =>
  intro i hi
  rw [grown_pc _ hn,grown_pc _ hn,grown_pc _ hn]
  refine rec_ei (fun h => ?_) (fun h => ?_)
  ·rw [if_neg h,if_neg h]
  ·rw [if_pos h,if_pos rfl]; show [iv _,iv (99 - (x:Int) - 1),iv _] = [iv _,iv (99 - ((x + 1:Nat):Int)),iv _]; rw [show (99 - (x:Int) - 1)=99 - ((x + 1:Nat):Int) by omega]
 case o29=>exact ⟨by omega,lt_succ_cases h2 (by simpa using hw)⟩
 case o30=>omega
end Go.Ab
namespace Go.Sh
open Go.Ab
end Go.Sh
namespace Go.Sh
open Go.Ab
end Go.Sh
namespace Go.Sh
open Go.Ab
end Go.Sh
namespace Go.Sh
open Go.Ab
end Go.Sh
namespace Go.Sh
open Go.Ab
structure AsGood (f o:Frm):Prop where
 strips:o.strips.length=f.strips.length
 thick:∀ i,(stp o i).thick=(stp f i).thick
 many:∀ i,i < f.strips.length->(stp f i).many<=(stp o i).many
 columns:o.columns=f.columns
 length:o.length=f.length
 slack:f.slack<=o.slack
 pieces:o.pieces.length=f.pieces.length
 high:∀ i,(pc f i).lo<=(pc o i).lo/\(pc o i).hi<=(pc f i).hi
 pence:∀ i,(pc o i).pence=(pc f i).pence
end Go.Sh
namespace Go.Sh
open Go.Ab
variable {f:Frm}
theorem same_comm (a b:Int):sameN f a b=sameN f b a:=Nat.min_comm _ _
theorem gapU_comm (a b x:Int):gapU f a b x=gapU f b a x:=by
 unfold gapU
 rw [same_comm]
 by_cases h:aboveC f a=aboveC f b
 ·rw [if_pos h,if_pos h.symm]
 ·rw [if_neg h,if_neg (fun e=>h e.symm)]
theorem gap_turn (a b:Int):gapP f b a=⟨-(gapP f a b).hi,-(gapP f a b).lo⟩:=by
 unfold gapP
 rw [gapU_comm b a a,gapU_comm b a b]
 simp only [Span.mk.injEq]
 omega
theorem gap_self (a:Int):gapP f a a=⟨0,0⟩:=by
 have:gapU f a a a = []:=by
  unfold gapU sameN
  rw [if_pos rfl,Nat.min_self]
  exact List.drop_length
 unfold gapP
 rw [this]; rfl
theorem gap_bound (hs:Sound f) (a b:Int) : -594<=(gapP f a b).lo/\(gapP f a b).lo<=(gapP f a b).hi/\(gapP f a b).hi<=594:=by
 have h1:=high_bound' hs (gapU_good hs a b a)
 have h2:=high_bound' hs (gapU_good hs a b b)
 unfold gapP
 simp only
 omega
theorem gapR_ok (h:okFrm f=true) {a b:Int} (ha:isPc f a=true) (hb:isPc f b=true):gapR f a b=gapP f a b:=by
 unfold gapR gapG; rw [h,ha,hb]; rfl
theorem meets_ok (h:okFrm f=true) {a b:Int} (ha:isPc f a=true) (hb:isPc f b=true):meetsP f a b=meetsV (gapP f a b):=by
 unfold meetsP gapG; rw [h,ha,hb]; rfl
theorem meets_turn (s:Span):meetsV ⟨-s.hi,-s.lo⟩=meetsV s:=by
 unfold meetsV within
 simp only
 have e1:(decide (-s.hi=0) && decide (-s.lo=0))=(decide (s.lo=0) && decide (s.hi=0)):=by
  rw [Bool.eq_iff_iff]; simp only [Bool.and_eq_true,decide_eq_true_eq]; omega
 have e2:(decide (-s.hi<=0) && decide (0 <= -s.lo))=(decide (s.lo<=0) && decide (0<=s.hi)):=by
  rw [Bool.eq_iff_iff]; simp only [Bool.and_eq_true,decide_eq_true_eq]; omega
 rw [e1,e2]
theorem meets_one (s:Span):meetsV s=1 ↔ s=⟨0,0⟩:=by
 unfold meetsV
 obtain ⟨lo,hi⟩:=s
 simp only
 by_cases h:lo=0/\hi=0
 ·obtain ⟨rfl,rfl⟩:=h
  exact ⟨fun _=>rfl,fun _=>rfl⟩
 ·have:(decide (lo=0) && decide (hi=0))=false:=by
   simp only [Bool.and_eq_false_iff,decide_eq_false_iff_not]; omega
  rw [this,if_neg Bool.false_ne_true]
  refine ⟨fun h2 => ?_,fun h2 => ?_⟩
  ·exfalso; revert h2; split <;> decide
  ·cases h2; exact absurd ⟨rfl,rfl⟩ h
theorem meets_two (s:Span):meetsV s=2 ↔ ¬ (s.lo<=0/\0<=s.hi):=by
 unfold meetsV
 obtain ⟨lo,hi⟩:=s
 simp only
 by_cases h:lo=0/\hi=0
 ·obtain ⟨rfl,rfl⟩:=h
  exact ⟨fun h=>absurd h (by decide),fun h=>absurd ⟨by omega,by omega⟩ h⟩
 ·have:(decide (lo=0) && decide (hi=0))=false:=by
   simp only [Bool.and_eq_false_iff,decide_eq_false_iff_not]; omega
  rw [this,if_neg Bool.false_ne_true]
  cases hw:within 0 lo hi with
  | true=>rw [if_pos rfl]; exact ⟨fun h=>absurd h (by decide),fun h=>absurd (within_iff.1 hw) h⟩
  | false =>
   rw [if_neg Bool.false_ne_true]
   refine ⟨fun _ h2 => ?_,fun _=>rfl⟩
   rw [within_iff.2 h2] at hw; cases hw
end Go.Sh
namespace Go.Sh
structure Plc where
 column:Int
 set:List Int
 one:Int
 other:Int
def stockedF (f:Frm) (k:Nat) (m:Int):Frm:={ f with strips:=f.strips.set k { stp f k with many:=m } }
def exP:Frm:=⟨60,2,[⟨5,2⟩,⟨3,2⟩,⟨18,1⟩],[⟨20,21,9⟩,⟨30,30,5⟩,⟨40,41,7⟩,⟨12,13,4⟩],[[0,1],[2,3]]⟩
def exO:Frm:=stockedF exP 1 3
end Go.Sh
namespace Go.En
open Go Go.Ab Go.Sh
def cPlc (x:Plc):List AV:=[iv x.column,aInts x.set,iv x.one,iv x.other]
abbrev vPlc (x:Plc):AV := .agg (cPlc x)
end Go.En
namespace Go.Ab
open Go Go.RowKit Go.Proofs Go.Sh Go.En
def ou31 (f:Frm):OutSpec:={ args:=[vFrm f],pre:=smallF f,res := .agg [iv f.length,iv f.slack,.vec 0,.vec 1,.vec 2],hout:=[(0,.vec 65 2 f.strips.length (fun i=>cStrip (stp f i))),(1,.vec 46 3 f.pieces.length (fun i=>cPiece (pc f i))),(2,.vec 27 1 f.columns.length (fun i=>[aInts (col f i)]))] }
def h31 (f:Frm):Hint:={ X:=Nat,M:=fun i=>[(4,iv i)],H:=fun i=>[(120,.cells 26 [iv f.length,iv f.slack,.vec 72,.vec 104,.vec 5000]),(5000,.vec 27 1 i (fun k=>[aInts (col f k)]))],I:=fun i=>i<=f.columns.length,mu:=fun i=>f.columns.length - i,x0:=(0:Nat),nx:=fun i=>i + 1 }
def s31o (f:Frm) (id:Nat):CallSpec:=(ou31 f).at [(0,id),(1,id + 1),(2,id + 2)]
def s49 (f:Frm) (k m:Int):CallSpec:={ args:=[vFrm f,iv k,iv m],res:=vFrm (stockedF f k.toNat m),pre:=smallF f/\0<=k/\k < f.strips.length }
def c49 (f:Frm) (k m:Int) (id:Nat):CallSpec:=s31o f id
def s82:CallSpec:={ args:=[],res := .tup [vFrm exP,vFrm exO] }
def c82:CallSpec:=s49 exP 1 3
def s82o (f o:Frm):CallSpec:={ args:=[],res := .tup [vFrm f,vFrm o],pre:=f=exP/\o=exO }
def sw20 (f o:Frm):CallSpec:={ args:=[],res:=bv true,pre:=f=exP/\o=exO }
def c20a (f o:Frm):CallSpec:=s82o f o
def c20b (f o:Frm):CallSpec:=s36 o 0 [2,0,0]
def c20c (f o:Frm):CallSpec:=s40 (refuseL f) [3]
def s20:CallSpec:={ args:=[],res:=bv true }
def s3 (f:Frm) (x:Plc):CallSpec:={ args:=[vFrm f,vPlc x],res:=bv true,pre:=fitsF f/\x.set.length<=big }
end Go.Ab
namespace Go.Ab
open Go Go.RowKit Go.Proofs Go.Sh Go.En
theorem wo31 (f:Frm)
  (o0:smallF f->0 + List.length (Frm.strips f)<=65536)
  (o1:smallF f->0 + List.length (Frm.pieces f)<=65536)
  (o2:smallF f->0=(↑0:Int))
  (o3:smallF f->0<=List.length (Frm.columns f))
  (o4:smallF f -> ∀ (x0:Nat),x0<=List.length (Frm.columns f)->decide ((↑x0:Int) < (↑(List.length (Frm.columns f)):Int))=true->0<=(↑x0:Int))
  (o5:smallF f -> ∀ (x0:Nat),x0<=List.length (Frm.columns f)->decide ((↑x0:Int) < (↑(List.length (Frm.columns f)):Int))=true->(↑x0:Int) < (↑(List.length (Frm.columns f)):Int))
  (o6:smallF f -> ∀ (x0:Nat),x0<=List.length (Frm.columns f)->decide ((↑x0:Int) < (↑(List.length (Frm.columns f)):Int))=true->0 + List.length (col f x0)<=65536)
  (o7:smallF f -> ∀ (x0:Nat),x0<=List.length (Frm.columns f)->decide ((↑x0:Int) < (↑(List.length (Frm.columns f)):Int))=true->x0 + 1<=65536)
  (o8:smallF f -> ∀ (x0:Nat),x0<=List.length (Frm.columns f)->decide ((↑x0:Int) < (↑(List.length (Frm.columns f)):Int))=true->inI ((↑x0:Int) + 1))
  (o9:smallF f -> ∀ (x0:Nat),x0<=List.length (Frm.columns f)->decide ((↑x0:Int) < (↑(List.length (Frm.columns f)):Int))=true->(↑x0:Int) + 1=(↑(x0 + 1):Int))
  (o10:smallF f -> ∀ (x0:Nat),x0<=List.length (Frm.columns f)->decide ((↑x0:Int) < (↑(List.length (Frm.columns f)):Int))=true -> ∀ (i2:Nat),i2 < x0 + 1->catF x0 (fun (k:Nat)=>[aInts (col f k)]) (fun (j:Nat)=>List.getD [[AV.sl 1 (0 + List.length (col f x0)) fun (i:Nat)=>[iv (List.getD (col f x0) i 0)]]] j (TI.za ti27)) i2 = [aInts (col f i2)])
  (o11:smallF f -> ∀ (x0:Nat),x0<=List.length (Frm.columns f)->decide ((↑x0:Int) < (↑(List.length (Frm.columns f)):Int))=true->x0 + 1<=List.length (Frm.columns f))
  (o12:smallF f -> ∀ (x0:Nat),x0<=List.length (Frm.columns f)->decide ((↑x0:Int) < (↑(List.length (Frm.columns f)):Int))=true->List.length (Frm.columns f) - (x0 + 1) < List.length (Frm.columns f) - x0)
  (o13:smallF f -> ∀ (x0:Nat),x0<=List.length (Frm.columns f)->decide ((↑x0:Int) < (↑(List.length (Frm.columns f)):Int))=false->0 + List.length (Frm.strips f)=List.length (Frm.strips f))
  (o14:smallF f -> ∀ (x0:Nat),x0<=List.length (Frm.columns f)->decide ((↑x0:Int) < (↑(List.length (Frm.columns f)):Int))=false->0 + List.length (Frm.pieces f)=List.length (Frm.pieces f))
  (o15:smallF f -> ∀ (x0:Nat),x0<=List.length (Frm.columns f)->decide ((↑x0:Int) < (↑(List.length (Frm.columns f)):Int))=false->x0=List.length (Frm.columns f))
  (l:List (Nat × Nat)) (hl:l.map (·.1)=(OutSpec.hout (ou31 f)).map (·.1)) (hnd:(l.map (·.2)).Nodup) :
  Triple Try.prog 31 (OutSpec.at (ou31 f) l):=by
 refine triple_out Try.func31 rfl Try.call31 T0_ok _ _ _ _ l rfl (Nat.le_of_ble_eq_true (by kernel_rfl)) hl hnd (by kernel_rfl) (by kernel_rfl) (by kernel_rfl) ?_
 intro hpre C hC hE
 obtain ⟨P,w0,E0,av,hA,ro,df⟩:=C
 obtain ⟨rfl,rfl,rfl⟩:=hC
 refine swp_seq ?_
 refine zR [1,2] [0,8] (Ak 2 tv) ?_
 refine swp_seq ?_
 refine zR [1,2,3] [0,8,120,72,104] (Ak 7 (An (o0 hpre) (Ak 3 (An (o1 hpre) (Ak 3 tv))))) ?_
 refine swp_seq ?_
 refine swp_seq ?_
 refine zR [1,2,3,4] [0,8,120,72,104] (Ak 1 tv) ?_
 refine swp_block ?_
 refine zL (Hint.ann (h31 f) [(1,AV.ptr 0 []),(2,AV.ptr 8 []),(3,AV.ptr 120 [])] [(0,OB.cells 26 (cFrm f)),(8,OB.cells 26 [iv 0,iv 0,nilv,nilv,nilv]),(72,OB.vec 65 2 (0 + List.length (Frm.strips f)) fun (i:Nat)=>cStrip (stp f i)),(104,OB.vec 46 3 (0 + List.length (Frm.pieces f)) fun (i:Nat)=>cPiece (pc f i))] 10144) (zE hE [] [(0,.same 0),(8,.same 8),(120,.same 120),(72,.same 72),(104,.same 104),(5000,.nil)] [] [0,8,72,104] (An (An (An (zr (some (Src.same 0))) (zr nilP)) (An (An (zr (some (Src.same 8))) (zr nilP)) (An (An (zr (some (Src.same 120))) (zr nilP)) (An (An (ci (o2 hpre)) (zr nilN)) tv)))) (An (An (An (zr (OB.cells 26 (cFrm f))) (zr true)) (An (An (zr (OB.cells 26 [iv 0,iv 0,nilv,nilv,nilv])) (zr true)) (An (An (zr (OB.vec 65 2 (0 + List.length (Frm.strips f)) fun (i:Nat)=>cStrip (stp f i))) (zr true)) (An (An (zr (OB.vec 46 3 (0 + List.length (Frm.pieces f)) fun (i:Nat)=>cPiece (pc f i))) (zr true)) (An (An (zr 26) (An (An (An (zr (iv (Frm.length f))) (zr nilN)) (An (An (zr (iv (Frm.slack f))) (zr nilN)) (An (zr (some (Src.same 72))) (An (zr (some (Src.same 104))) (An (zr (some Src.nil)) tv))))) (zr true))) (An (zr 0) tv)))))) (An (zr true) (zr true))))) (o3 hpre) (fun (x0:Nat) hx0 => ?_)
 refine swp_seq ?_
 refine swp_seq ?_
 refine zR [1,2,3,4,22] [0,8,120,72,104,5000] (Ak 5 tv) ?_
 refine zI (decide ((↑x0:Int) < (↑(List.length (Frm.columns f)):Int))) (fun y1 => ?_) (fun y1 => ?_)
 ·refine swp_skip ?_
  refine swp_seq ?_
  refine swp_block ?_
  refine zR [1,2,3,4] [0,8,120,72,104,10264] (Ak 6 (An (An (o4 hpre x0 hx0 y1) (o5 hpre x0 hx0 y1)) (Ak 1 (An (o6 hpre x0 hx0 y1) (Ak 1 (An (o7 hpre x0 hx0 y1) (Ak 2 tv))))))) ?_
  refine zR [1,2,3,4] [0,8,120,72,104,10264] (Ak 1 (An (o8 hpre x0 hx0 y1) (Ak 1 tv))) ?_
  exact zn (zE hE [] [(0,.same 0),(8,.same 8),(120,.same 120),(72,.same 72),(104,.same 104),(5000,.same 10264)] [] [0,8,72,104] (An (An (An (zr (some (Src.same 0))) (zr nilP)) (An (An (zr (some (Src.same 8))) (zr nilP)) (An (An (zr (some (Src.same 120))) (zr nilP)) (An (An (ci (o9 hpre x0 hx0 y1)) (zr nilN)) tv)))) (An (An (An (zr (OB.cells 26 (cFrm f))) (zr true)) (An (An (zr (OB.cells 26 [iv 0,iv 0,nilv,nilv,nilv])) (zr true)) (An (An (zr (OB.vec 65 2 (0 + List.length (Frm.strips f)) fun (i:Nat)=>cStrip (stp f i))) (zr true)) (An (An (zr (OB.vec 46 3 (0 + List.length (Frm.pieces f)) fun (i:Nat)=>cPiece (pc f i))) (zr true)) (An (An (zr 26) (An (An (An (zr (iv (Frm.length f))) (zr nilN)) (An (An (zr (iv (Frm.slack f))) (zr nilN)) (An (zr (some (Src.same 72))) (An (zr (some (Src.same 104))) (An (zr (some (Src.same 10264))) tv))))) (zr true))) (An (An (zr 27) (An (zr 1) (An (zr (x0 + 1)) (fun (i2:Nat)=>(fun (y3:i2 < x0 + 1)=>(o10 hpre x0 hx0 y1 i2 y3)))))) tv)))))) (An (zr true) (zr true))))) (o11 hpre x0 hx0 y1) (o12 hpre x0 hx0 y1)
 ·refine swp_exit ?_
  refine swp_seq ?_
  refine zR [2] [8,72,104,5000] (Ak 2 tv) ?_
  refine swp_ret ?_
  exact zO (ASt.mk [(2,AV.ptr 90 [])] [(90,OB.cells 26 [iv (Frm.length f),iv (Frm.slack f),AV.vec 0,AV.vec 1,AV.vec 2]),(0,OB.vec 65 2 (List.length (Frm.strips f)) fun (i:Nat)=>cStrip (stp f i)),(1,OB.vec 46 3 (List.length (Frm.pieces f)) fun (i:Nat)=>cPiece (pc f i)),(2,OB.vec 27 1 (List.length (Frm.columns f)) fun (i:Nat)=>[aInts (col f i)])] 100) (zE hE [] [(90,.same 8),(0,.same 72),(1,.same 104),(2,.same 5000)] [] [] (An (An (An (zr (some (Src.same 8))) (zr nilP)) tv) (An (An (An (zr 26) (An (An (An (zr (iv (Frm.length f))) (zr nilN)) (An (An (zr (iv (Frm.slack f))) (zr nilN)) (An (zr (some (Src.same 72))) (An (zr (some (Src.same 104))) (An (zr (some (Src.same 5000))) tv))))) (zr true))) (An (An (zr 65) (An (zr 2) (An (o13 hpre x0 hx0 y1) (fun (i4:Nat)=>(fun (y5:i4 < 0 + List.length (Frm.strips f))=>(zr (cStrip (stp f i4)))))))) (An (An (zr 46) (An (zr 3) (An (o14 hpre x0 hx0 y1) (fun (i6:Nat)=>(fun (y7:i6 < 0 + List.length (Frm.pieces f))=>(zr (cPiece (pc f i6)))))))) (An (An (zr 27) (An (zr 1) (An (o15 hpre x0 hx0 y1) (fun (i8:Nat)=>(fun (y9:i8 < x0)=>(zr ([aInts (col f i8)]))))))) tv)))) (An (zr true) (zr true))))) (An (Ak 1 tv) (An (zr (AV.agg [iv (Frm.length f),iv (Frm.slack f),AV.vec 0,AV.vec 1,AV.vec 2])) (An (zr (some (OB.vec 65 2 (List.length (Frm.strips f)) fun (i:Nat)=>cStrip (stp f i)))) (An (zr (some (OB.vec 46 3 (List.length (Frm.pieces f)) fun (i:Nat)=>cPiece (pc f i)))) (An (zr (some (OB.vec 27 1 (List.length (Frm.columns f)) fun (i:Nat)=>[aInts (col f i)]))) tv)))))
theorem to31 (f:Frm) (l:List (Nat × Nat)) (hl:l.map (·.1) = [0,1,2]) (hnd:(l.map (·.2)).Nodup):Triple Try.prog 31 ((ou31 f).at l):=by
 apply wo31 (l:=l) (hl:=hl) (hnd:=hnd)
 all_goals (intro hp; obtain ⟨a1,a2,a3,a4⟩:=hp)
 case o6=>intro x hx hl; have:=a4 x; show _<=_; omega
 case o10 =>
  intro x hx hl i hi
  refine catF_idx (fun k=>[aInts (col f k)]) ?_ hi
  show [AV.sl 1 (0 + (col f x).length) _] = [aInts (col f x)]
  rw [Nat.zero_add]; rfl
 all_goals (first | omega | rfl | skip)
 all_goals (intro x hx hl; simp only [decide_eq_true_eq,decide_eq_false_iff_not] at hl)
 all_goals (first | omega | (simp only [inI]; omega))
theorem t31o (f:Frm) (id:Nat):Triple Try.prog 31 (s31o f id):=to31 f _ rfl (by simp)
theorem w49 (f:Frm) (k:Int) (m:Int)
  (o0:smallF f/\0<=k/\k < (↑(List.length (Frm.strips f)):Int)->0<=k)
  (o1:smallF f/\0<=k/\k < (↑(List.length (Frm.strips f)):Int)->k < (↑(List.length (Frm.strips f)):Int))
  (o2:smallF f/\0<=k/\k < (↑(List.length (Frm.strips f)):Int)->Int.toNat k < List.length (Frm.strips f))
  (o3:smallF f/\0<=k/\k < (↑(List.length (Frm.strips f)):Int)->0<=k)
  (o4:smallF f/\0<=k/\k < (↑(List.length (Frm.strips f)):Int)->k < (↑(List.length (Frm.strips f)):Int))
  (o5:smallF f/\0<=k/\k < (↑(List.length (Frm.strips f)):Int)->Int.toNat k < List.length (Frm.strips f))
  (o6:smallF f/\0<=k/\k < (↑(List.length (Frm.strips f)):Int)->Frm.length f=Frm.length (stockedF f (Int.toNat k) m))
  (o7:smallF f/\0<=k/\k < (↑(List.length (Frm.strips f)):Int)->Frm.slack f=Frm.slack (stockedF f (Int.toNat k) m))
  (o8:smallF f/\0<=k/\k < (↑(List.length (Frm.strips f)):Int)->List.length (Frm.strips f)=List.length (Frm.strips (stockedF f (Int.toNat k) m)))
  (o9:smallF f/\0<=k/\k < (↑(List.length (Frm.strips f)):Int) -> ∀ (i1:Nat),i1 < List.length (Frm.strips (stockedF f (Int.toNat k) m))->Decidable.rec (fun (h:¬i1=Int.toNat k)=>cStrip (stp f i1)) (fun (h:i1=Int.toNat k)=>[iv (Strip.thick (stp f (Int.toNat k))),iv m] ++ []) (instDecidableEqNat i1 (Int.toNat k))=cStrip (stp (stockedF f (Int.toNat k) m) i1))
  (o10:smallF f/\0<=k/\k < (↑(List.length (Frm.strips f)):Int)->List.length (Frm.pieces f)=List.length (Frm.pieces (stockedF f (Int.toNat k) m)))
  (o11:smallF f/\0<=k/\k < (↑(List.length (Frm.strips f)):Int) -> ∀ (i3:Nat),i3 < List.length (Frm.pieces (stockedF f (Int.toNat k) m))->cPiece (pc f i3)=cPiece (pc (stockedF f (Int.toNat k) m) i3))
  (o12:smallF f/\0<=k/\k < (↑(List.length (Frm.strips f)):Int)->List.length (Frm.columns f)=List.length (Frm.columns (stockedF f (Int.toNat k) m)))
  (o13:smallF f/\0<=k/\k < (↑(List.length (Frm.strips f)):Int) -> ∀ (i5:Nat),i5 < List.length (Frm.columns (stockedF f (Int.toNat k) m)) -> [aInts (col f i5)] = [aInts (col (stockedF f (Int.toNat k) m) i5)]) :
  Triple Try.prog 49 (s49 f k m):=by
 refine triple_of Try.func49 rfl Try.call49 T0_ok _ rfl rfl rfl rfl (Nat.le_of_ble_eq_true (by kernel_rfl)) (fun _ _ _ _ h=>h) ?_
 intro hpre C hC _ hE
 obtain ⟨P,w0,E0,av,hA,ro,df⟩:=C
 obtain ⟨rfl,rfl,rfl⟩:=hC
 refine swp_seq ?_
 refine zR [1,2,3,6] [0,8] (Ak 2 tv) ?_
 refine swp_seq ?_
 refine zC ([(1,CallSpec.eq (c49 f k m 24) [true])]) [1,2,6,7] [8,32,24,25,26] (Ak 1 (An (An (An (zr (AV.agg (cFrm f))) tv) (An (t31o (f) (24)) (An hpre.1 (Ak 1 (fun (i0:Env)=>tv))))) (Ak 2 tv))) ?_
 refine swp_seq ?_
 refine zR [1,2,6,7,8] [8,32,88,24,25,26] (Ak 3 (An (An (o0 hpre) (o1 hpre)) (An (An (o2 hpre) tv) (Ak 2 tv)))) ?_
 refine swp_seq ?_
 refine zR [1,6,7,8] [8,32,88,24,25,26] (Ak 3 tv) ?_
 refine swp_seq ?_
 refine zR [6,7] [8,32,24,25,26] (Ak 4 (An (An (o3 hpre) (o4 hpre)) (An (An (o5 hpre) tv) tv))) ?_
 refine swp_seq ?_
 refine zR [6] [8,24,25,26] (Ak 2 tv) ?_
 refine swp_ret ?_
 exact zT [24,25,26] (An (Ak 1 tv) (An (An (An (ci (o6 hpre)) (zr nilN)) (An (An (ci (o7 hpre)) (zr nilN)) (An (An (zr 2) (An (o8 hpre) (fun (i1:Nat)=>(fun (y2:i1 < List.length (Frm.strips (stockedF f (Int.toNat k) m)))=>(o9 hpre i1 y2))))) (An (An (zr 3) (An (o10 hpre) (fun (i3:Nat)=>(fun (y4:i3 < List.length (Frm.pieces (stockedF f (Int.toNat k) m)))=>(o11 hpre i3 y4))))) (An (An (zr 1) (An (o12 hpre) (fun (i5:Nat)=>(fun (y6:i5 < List.length (Frm.columns (stockedF f (Int.toNat k) m)))=>(o13 hpre i5 y6))))) tv))))) (An (zr true) (An (zr true) (zr true)))))
theorem stp_stocked {f:Frm} {k:Nat} (hk:k < f.strips.length) (m:Int) (j:Nat):stp (stockedF f k m) j=if j=k then { stp f k with many:=m } else stp f j:=by
 show (f.strips.set k _).getD j default=_
 rw [List.getD_eq_getElem?_getD,List.getElem?_set]
 by_cases e:k=j
 ·subst e; rw [if_pos rfl,if_pos hk,if_pos rfl]; rfl
 ·rw [if_neg e,if_neg (fun h=>e h.symm),stp,List.getD_eq_getElem?_getD]
theorem t49 (f:Frm) (k m:Int):Triple Try.prog 49 (s49 f k m):=by
 apply w49
 all_goals (rintro ⟨hp,h1,h2⟩)
 case o8=>exact List.length_set.symm
 case o9 =>
  intro i hi
  rw [stp_stocked (by omega)]
  refine rec_ei (fun h => ?_) (fun h => ?_)
  ·rw [if_neg h]
  ·rw [if_pos h]; rfl
 all_goals (first | omega | rfl | (intro i hi; rfl))
theorem w82 
  (o0:60=Frm.length exP)
  (o1:2=Frm.slack exP)
  (o2:∀ (i0:Nat),i0 < List.length (Frm.strips exP)->List.getD [[iv 5,iv 2],[iv 3,iv 2],[iv 18,iv 1]] i0 (TI.za ti65)=cStrip (stp exP i0))
  (o3:∀ (i2:Nat),i2 < List.length (Frm.pieces exP)->List.getD [[iv 20,iv 21,iv 9],[iv 30,iv 30,iv 5],[iv 40,iv 41,iv 7],[iv 12,iv 13,iv 4]] i2 (TI.za ti46)=cPiece (pc exP i2))
  (o4:∀ (i4:Nat),i4 < List.length (Frm.columns exP)->List.getD [[AV.sl 1 2 fun (j:Nat)=>List.getD [[iv 0],[iv 1]] j (TI.za ti3)],[AV.sl 1 2 fun (j:Nat)=>List.getD [[iv 2],[iv 3]] j (TI.za ti3)]] i4 (TI.za ti27) = [aInts (col exP i4)])
  (o5:smallF exP)
  (o6:Frm.length (stockedF exP 1 3)=Frm.length exO)
  (o7:Frm.slack (stockedF exP 1 3)=Frm.slack exO)
  (o8:∀ (i13:Nat),i13 < List.length (Frm.strips exO)->cStrip (stp (stockedF exP 1 3) i13)=cStrip (stp exO i13))
  (o9:∀ (i15:Nat),i15 < List.length (Frm.pieces exO)->cPiece (pc (stockedF exP 1 3) i15)=cPiece (pc exO i15))
  (o10:∀ (i17:Nat),i17 < List.length (Frm.columns exO) -> [aInts (col (stockedF exP 1 3) i17)] = [aInts (col exO i17)]) :
  Triple Try.prog 82 (s82):=by
 refine triple_of Try.func82 rfl Try.call82 T0_ok _ rfl rfl rfl rfl (Nat.le_of_ble_eq_true (by kernel_rfl)) (fun _ _ _ _ h=>h) ?_
 intro _ C hC _ hE
 obtain ⟨P,w0,E0,av,hA,ro,df⟩:=C
 obtain ⟨rfl,rfl,rfl⟩:=hC
 refine swp_seq ?_
 refine zR [0,1] [0,8] (Ak 2 tv) ?_
 refine swp_seq ?_
 refine zR [0,1] [0,8,40,112,136] (Ak 18 tv) ?_
 refine swp_seq ?_
 refine swp_ent (zE (st2:=ASt.mk [(0,AV.ptr 0 []),(1,AV.ptr 8 [])] [(0,OB.cells 26 (cFrm exP)),(8,OB.cells 26 [iv 0,iv 0,nilv,nilv,nilv])] 160) hE [40,112,136] [(0,.same 0),(8,.same 8)] [] [8] (An (An (An (zr (some (Src.same 0))) (zr nilP)) (An (An (zr (some (Src.same 8))) (zr nilP)) tv)) (An (An (An (zr 26) (An (An (An (ci (o0)) (zr nilN)) (An (An (ci (o1)) (zr nilN)) (An (An (zr 2) (An (by decide:3=List.length (Frm.strips exP)) (fun (i0:Nat)=>(fun (y1:i0 < List.length (Frm.strips exP))=>(o2 i0 y1))))) (An (An (zr 3) (An (by decide:4=List.length (Frm.pieces exP)) (fun (i2:Nat)=>(fun (y3:i2 < List.length (Frm.pieces exP))=>(o3 i2 y3))))) (An (An (zr 1) (An (by decide:2=List.length (Frm.columns exP)) (fun (i4:Nat)=>(fun (y5:i4 < List.length (Frm.columns exP))=>(o4 i4 y5))))) tv))))) (zr true))) (An (An (zr (OB.cells 26 [iv 0,iv 0,nilv,nilv,nilv])) (zr true)) tv)) (An (zr true) (zr true))))) ?_
 refine zC ([(2,CallSpec.eq c82 [true,true,true])]) [0,1] [0,8] (Ak 2 (An (An (An (zr (AV.agg (cFrm exP))) (An (zr (iv 1)) (An (zr (iv 3)) tv))) (An (t49 (exP) (1) (3)) (An (An (o5) (An (by decide:Int.ofNat 0<=Int.ofNat 1) (by decide:1 < (↑(List.length (Frm.strips exP)):Int)))) (Ak 1 (fun (i6:Env)=>tv))))) (Ak 2 tv))) ?_
 refine swp_ret ?_
 exact zT [] (An (Ak 2 tv) (An (An (An (An (zr (iv (Frm.length exP))) (zr nilN)) (An (An (zr (iv (Frm.slack exP))) (zr nilN)) (An (An (zr 2) (An (zr (List.length (Frm.strips exP))) (fun (i7:Nat)=>(fun (y8:i7 < List.length (Frm.strips exP))=>(zr (cStrip (stp exP i7))))))) (An (An (zr 3) (An (zr (List.length (Frm.pieces exP))) (fun (i9:Nat)=>(fun (y10:i9 < List.length (Frm.pieces exP))=>(zr (cPiece (pc exP i9))))))) (An (An (zr 1) (An (zr (List.length (Frm.columns exP))) (fun (i11:Nat)=>(fun (y12:i11 < List.length (Frm.columns exP))=>(zr ([aInts (col exP i11)])))))) tv))))) (An (An (An (ci (o6)) (zr nilN)) (An (An (ci (o7)) (zr nilN)) (An (An (zr 2) (An (by decide:List.length (Frm.strips (stockedF exP 1 3))=List.length (Frm.strips exO)) (fun (i13:Nat)=>(fun (y14:i13 < List.length (Frm.strips exO))=>(o8 i13 y14))))) (An (An (zr 3) (An (by decide:List.length (Frm.pieces (stockedF exP 1 3))=List.length (Frm.pieces exO)) (fun (i15:Nat)=>(fun (y16:i15 < List.length (Frm.pieces exO))=>(o9 i15 y16))))) (An (An (zr 1) (An (by decide:List.length (Frm.columns (stockedF exP 1 3))=List.length (Frm.columns exO)) (fun (i17:Nat)=>(fun (y18:i17 < List.length (Frm.columns exO))=>(o10 i17 y18))))) tv))))) tv)) (An (zr true) (An (zr true) (zr true)))))
theorem small_frm {f:Frm} (h:decide (f.strips.length<=64) && decide (f.pieces.length<=64) && decide (f.columns.length<=64) && f.columns.all (fun c=>decide (c.length<=64))=true):smallF f:=by
 simp only [Bool.and_eq_true,decide_eq_true_eq] at h
 refine ⟨h.1.1.1,h.1.1.2,h.1.2,fun i => ?_⟩
 by_cases hi:i < f.columns.length
 ·have:=idx_all [] h.2 hi
  exact of_decide_eq_true this
 ·have:col f i = []:=getD_ge _ _ (by omega)
  rw [this]; exact Nat.zero_le _
theorem small_exP:smallF exP:=small_frm (by decide)
theorem small_exO:smallF exO:=small_frm (by decide)
theorem sl_ext {sz n:Nat} {f g:Nat->List AV} (h:∀ j,f j=g j):AV.sl sz n f = .sl sz n g:=by rw [funext h]
theorem t82:Triple Try.prog 82 s82:=by
 apply w82
 case o2 =>
  intro i hi
  have:i=0 ∨ i=1 ∨ i=2:=by simp [exP] at hi; omega
  rcases this with rfl | rfl | rfl <;> rfl
 case o3 =>
  intro i hi
  have:i=0 ∨ i=1 ∨ i=2 ∨ i=3:=by simp [exP] at hi; omega
  rcases this with rfl | rfl | rfl | rfl <;> rfl
 case o4 =>
  intro i hi
  have:i=0 ∨ i=1:=by simp [exP] at hi; omega
  rcases this with rfl | rfl
  ·exact congrArg (fun z=>[z]) (sl_ext fun j=>by rcases j with _ | _ | j <;> rfl)
  ·exact congrArg (fun z=>[z]) (sl_ext fun j=>by rcases j with _ | _ | j <;> rfl)
 case o5=>exact small_exP
 all_goals (first | rfl | (intro i hi; rfl) | decide)
theorem t82o (f o:Frm):Triple Try.prog 82 (s82o f o):=⟨t82.1,fun h=>by obtain ⟨rfl,rfl⟩:=h; exact t82.2 trivial⟩
theorem w20 (f:Frm) (o:Frm)
  (o0:f=exP/\o=exO->smallF f)
  (o1:f=exP/\o=exO->smallF o)
  (o2:f=exP/\o=exO->smallF f)
  (o3:f=exP/\o=exO -> ∀ (i4:Nat),i4 < List.length [2,0,0]->List.getD [[iv 2],[iv 0],[iv 0]] i4 (TI.za ti3) = [iv (List.getD [2,0,0] i4 0)])
  (o4:f=exP/\o=exO->smallF o)
  (o5:f=exP/\o=exO->smallF o)
  (o6:f=exP/\o=exO->smallF f)
  (o7:f=exP/\o=exO->(bif bif bif bif bif bif bif decide (roomE f 0=0) then decide (stripsE o=0) else false then decide (refuseE f=0) else false then decide (openF o (fitsG o 0 [2,0,0])=0) else false then decide (growE o 0=0) else false then decide (openF f (gapG f 1 3)=0) else false then decide (Span.lo (roomR f 0)=8) && (decide (Span.hi (roomR f 0)=9) && true) else false then decide (stripsN o=4) else false)=true -> ∀ (i53:Nat),i53 < List.length [3]->List.getD [[iv 3]] i53 (TI.za ti3) = [iv (List.getD [3] i53 0)])
  (o8:f=exP/\o=exO->(bif bif bif bif bif bif bif decide (roomE f 0=0) then decide (stripsE o=0) else false then decide (refuseE f=0) else false then decide (openF o (fitsG o 0 [2,0,0])=0) else false then decide (growE o 0=0) else false then decide (openF f (gapG f 1 3)=0) else false then decide (Span.lo (roomR f 0)=8) && (decide (Span.hi (roomR f 0)=9) && true) else false then decide (stripsN o=4) else false)=true->List.length (refuseL f)<=big)
  (o9:f=exP/\o=exO->(bif bif bif bif bif bif bif bif bif bif bif decide (roomE f 0=0) then decide (stripsE o=0) else false then decide (refuseE f=0) else false then decide (openF o (fitsG o 0 [2,0,0])=0) else false then decide (growE o 0=0) else false then decide (openF f (gapG f 1 3)=0) else false then decide (Span.lo (roomR f 0)=8) && (decide (Span.hi (roomR f 0)=9) && true) else false then decide (stripsN o=4) else false then sameInts (refuseL f) [3] else false then decide (fitsP o 0 [2,0,0]=3) else false then decide (growN o 0=22) else false then decide (Span.lo (gapR f 1 3)=19) && (decide (Span.hi (gapR f 1 3)=21) && true) else false)=true) :
  Triple Try.prog 20 (sw20 f o):=by
 refine triple_of Try.func20 rfl Try.call20 T0_ok _ rfl rfl rfl rfl (Nat.le_of_ble_eq_true (by kernel_rfl)) (fun _ _ _ _ h=>h) ?_
 intro hpre C hC _ hE
 obtain ⟨P,w0,E0,av,hA,ro,df⟩:=C
 obtain ⟨rfl,rfl,rfl⟩:=hC
 refine swp_seq ?_
 refine zR [] [] (Ak 1 tv) ?_
 refine swp_seq ?_
 refine zC ([(0,CallSpec.eq (c20a f o) [])]) [1,2] [40,48] (An (Ak 1 (An (t82o (f) (o)) (An (An hpre.1 hpre.2) (Ak 1 (fun (i0:Env)=>tv))))) (Ak 7 tv)) ?_
 refine swp_seq ?_
 refine zC ([(1,CallSpec.eq (s22 f 0) [true,true])]) [1,2,3,4] [40,48,112] (Ak 1 (An (An (An (zr (AV.agg (cFrm f))) (An (zr (iv 0)) tv)) (An (t22 (f) (0)) (An (o0 hpre) (Ak 1 (fun (i1:Env)=>tv))))) (Ak 6 tv))) ?_
 refine swp_seq ?_
 refine zC ([(1,CallSpec.eq (s59 o) [true])]) [1,2,3,4,5,6] [40,48,112] (Ak 1 (An (An (An (zr (AV.agg (cFrm o))) tv) (An (t59 (o)) (An (o1 hpre) (Ak 1 (fun (i2:Env)=>tv))))) (Ak 5 tv))) ?_
 refine swp_seq ?_
 refine zC ([(1,CallSpec.eq (s42 f) [true])]) [1,2,3,4,5,6,7,8] [40,48,112] (Ak 1 (An (An (An (zr (AV.agg (cFrm f))) tv) (An (t42 (f)) (An (o2 hpre) (Ak 1 (fun (i3:Env)=>tv))))) (Ak 5 tv))) ?_
 refine swp_seq ?_
 refine zC ([(2,CallSpec.eq (c20b f o) [true,true,false])]) [1,2,3,4,5,6,7,8,9,10] [40,48,112] (Ak 2 (An (An (An (zr (AV.agg (cFrm o))) (An (zr (iv 0)) (An (An (zr 1) (An (zr 3) (fun (i4:Nat)=>(fun (y5:i4 < List.length [2,0,0])=>(o3 hpre i4 y5))))) tv))) (An (t36 (o) (0) ([2,0,0])) (An (An (o4 hpre) (by decide:List.length [2,0,0]<=64)) (Ak 1 (fun (i6:Env)=>tv))))) (Ak 5 tv))) ?_
 refine swp_seq ?_
 refine zC ([(1,CallSpec.eq (s26 o 0) [true,true])]) [1,3,4,5,6,7,8,9,10,11,12] [40,112] (Ak 1 (An (An (An (zr (AV.agg (cFrm o))) (An (zr (iv 0)) tv)) (An (t26 (o) (0)) (An (o5 hpre) (Ak 1 (fun (i7:Env)=>tv))))) (Ak 5 tv))) ?_
 refine swp_seq ?_
 refine zC ([(1,CallSpec.eq (s48 f 1 3) [true,true,true])]) [3,4,5,6,7,8,9,10,11,12,13,14] [112,408] (Ak 1 (An (An (An (zr (AV.agg (cFrm f))) (An (zr (iv 1)) (An (zr (iv 3)) tv))) (An (t48 (f) (1) (3)) (An (o6 hpre) (Ak 1 (fun (i8:Env)=>tv))))) (Ak 6 tv))) ?_
 refine swp_seq ?_
 refine zC ([(34,CallSpec.eq (c20c f o) [false,false])]) [0] [] (Ak 3 (An (fun (y9:decide (roomE f 0=0)=true)=>(An (Ak 1 tv) tv)) (An (fun (y10:decide (roomE f 0=0)=true)=>(An (An (fun (y11:decide (roomE f 0=0)=true)=>y10) (Ak 1 tv)) tv)) (An (An (fun (y12:decide (roomE f 0=0)=true)=>y12) (fun (y13:decide (roomE f 0=0)=false)=>tv)) (Ak 1 (An (fun (y14:(bif decide (roomE f 0=0) then decide (stripsE o=0) else false)=true)=>(An (Ak 1 tv) tv)) (An (fun (y15:(bif decide (roomE f 0=0) then decide (stripsE o=0) else false)=true)=>(An (An (fun (y16:(bif decide (roomE f 0=0) then decide (stripsE o=0) else false)=true)=>y15) (Ak 1 tv)) tv)) (An (An (fun (y17:(bif decide (roomE f 0=0) then decide (stripsE o=0) else false)=true)=>y17) (fun (y18:(bif decide (roomE f 0=0) then decide (stripsE o=0) else false)=false)=>tv)) (Ak 1 (An (fun (y19:(bif bif decide (roomE f 0=0) then decide (stripsE o=0) else false then decide (refuseE f=0) else false)=true)=>(An (Ak 1 tv) tv)) (An (fun (y20:(bif bif decide (roomE f 0=0) then decide (stripsE o=0) else false then decide (refuseE f=0) else false)=true)=>(An (An (fun (y21:(bif bif decide (roomE f 0=0) then decide (stripsE o=0) else false then decide (refuseE f=0) else false)=true)=>y20) (Ak 1 tv)) tv)) (An (An (fun (y22:(bif bif decide (roomE f 0=0) then decide (stripsE o=0) else false then decide (refuseE f=0) else false)=true)=>y22) (fun (y23:(bif bif decide (roomE f 0=0) then decide (stripsE o=0) else false then decide (refuseE f=0) else false)=false)=>tv)) (Ak 1 (An (fun (y24:(bif bif bif decide (roomE f 0=0) then decide (stripsE o=0) else false then decide (refuseE f=0) else false then decide (openF o (fitsG o 0 [2,0,0])=0) else false)=true)=>(An (Ak 1 tv) tv)) (An (fun (y25:(bif bif bif decide (roomE f 0=0) then decide (stripsE o=0) else false then decide (refuseE f=0) else false then decide (openF o (fitsG o 0 [2,0,0])=0) else false)=true)=>(An (An (fun (y26:(bif bif bif decide (roomE f 0=0) then decide (stripsE o=0) else false then decide (refuseE f=0) else false then decide (openF o (fitsG o 0 [2,0,0])=0) else false)=true)=>y25) (Ak 1 tv)) tv)) (An (An (fun (y27:(bif bif bif decide (roomE f 0=0) then decide (stripsE o=0) else false then decide (refuseE f=0) else false then decide (openF o (fitsG o 0 [2,0,0])=0) else false)=true)=>y27) (fun (y28:(bif bif bif decide (roomE f 0=0) then decide (stripsE o=0) else false then decide (refuseE f=0) else false then decide (openF o (fitsG o 0 [2,0,0])=0) else false)=false)=>tv)) (Ak 1 (An (fun (y29:(bif bif bif bif decide (roomE f 0=0) then decide (stripsE o=0) else false then decide (refuseE f=0) else false then decide (openF o (fitsG o 0 [2,0,0])=0) else false then decide (growE o 0=0) else false)=true)=>(An (Ak 1 tv) tv)) (An (fun (y30:(bif bif bif bif decide (roomE f 0=0) then decide (stripsE o=0) else false then decide (refuseE f=0) else false then decide (openF o (fitsG o 0 [2,0,0])=0) else false then decide (growE o 0=0) else false)=true)=>(An (An (fun (y31:(bif bif bif bif decide (roomE f 0=0) then decide (stripsE o=0) else false then decide (refuseE f=0) else false then decide (openF o (fitsG o 0 [2,0,0])=0) else false then decide (growE o 0=0) else false)=true)=>y30) (Ak 1 tv)) tv)) (An (An (fun (y32:(bif bif bif bif decide (roomE f 0=0) then decide (stripsE o=0) else false then decide (refuseE f=0) else false then decide (openF o (fitsG o 0 [2,0,0])=0) else false then decide (growE o 0=0) else false)=true)=>y32) (fun (y33:(bif bif bif bif decide (roomE f 0=0) then decide (stripsE o=0) else false then decide (refuseE f=0) else false then decide (openF o (fitsG o 0 [2,0,0])=0) else false then decide (growE o 0=0) else false)=false)=>tv)) (Ak 1 (An (fun (y34:(bif bif bif bif bif decide (roomE f 0=0) then decide (stripsE o=0) else false then decide (refuseE f=0) else false then decide (openF o (fitsG o 0 [2,0,0])=0) else false then decide (growE o 0=0) else false then decide (openF f (gapG f 1 3)=0) else false)=true)=>(An (Ak 1 tv) tv)) (An (fun (y35:(bif bif bif bif bif decide (roomE f 0=0) then decide (stripsE o=0) else false then decide (refuseE f=0) else false then decide (openF o (fitsG o 0 [2,0,0])=0) else false then decide (growE o 0=0) else false then decide (openF f (gapG f 1 3)=0) else false)=true)=>(An (Ak 2 tv) tv)) (An (fun (y36:(bif bif bif bif bif decide (roomE f 0=0) then decide (stripsE o=0) else false then decide (refuseE f=0) else false then decide (openF o (fitsG o 0 [2,0,0])=0) else false then decide (growE o 0=0) else false then decide (openF f (gapG f 1 3)=0) else false)=true)=>(An (An (fun (y37:(bif bif bif bif bif decide (roomE f 0=0) then decide (stripsE o=0) else false then decide (refuseE f=0) else false then decide (openF o (fitsG o 0 [2,0,0])=0) else false then decide (growE o 0=0) else false then decide (openF f (gapG f 1 3)=0) else false)=true)=>y36) (An (fun (y38:(bif bif bif bif bif decide (roomE f 0=0) then decide (stripsE o=0) else false then decide (refuseE f=0) else false then decide (openF o (fitsG o 0 [2,0,0])=0) else false then decide (growE o 0=0) else false then decide (openF f (gapG f 1 3)=0) else false)=true)=>y36) tv)) tv)) (An (An (fun (y39:(bif bif bif bif bif decide (roomE f 0=0) then decide (stripsE o=0) else false then decide (refuseE f=0) else false then decide (openF o (fitsG o 0 [2,0,0])=0) else false then decide (growE o 0=0) else false then decide (openF f (gapG f 1 3)=0) else false)=true)=>y39) (fun (y40:(bif bif bif bif bif decide (roomE f 0=0) then decide (stripsE o=0) else false then decide (refuseE f=0) else false then decide (openF o (fitsG o 0 [2,0,0])=0) else false then decide (growE o 0=0) else false then decide (openF f (gapG f 1 3)=0) else false)=false)=>tv)) (Ak 1 (An (fun (y41:(bif bif bif bif bif bif decide (roomE f 0=0) then decide (stripsE o=0) else false then decide (refuseE f=0) else false then decide (openF o (fitsG o 0 [2,0,0])=0) else false then decide (growE o 0=0) else false then decide (openF f (gapG f 1 3)=0) else false then decide (Span.lo (roomR f 0)=8) && (decide (Span.hi (roomR f 0)=9) && true) else false)=true)=>(An (Ak 1 tv) tv)) (An (fun (y42:(bif bif bif bif bif bif decide (roomE f 0=0) then decide (stripsE o=0) else false then decide (refuseE f=0) else false then decide (openF o (fitsG o 0 [2,0,0])=0) else false then decide (growE o 0=0) else false then decide (openF f (gapG f 1 3)=0) else false then decide (Span.lo (roomR f 0)=8) && (decide (Span.hi (roomR f 0)=9) && true) else false)=true)=>(An (An (fun (y43:(bif bif bif bif bif bif decide (roomE f 0=0) then decide (stripsE o=0) else false then decide (refuseE f=0) else false then decide (openF o (fitsG o 0 [2,0,0])=0) else false then decide (growE o 0=0) else false then decide (openF f (gapG f 1 3)=0) else false then decide (Span.lo (roomR f 0)=8) && (decide (Span.hi (roomR f 0)=9) && true) else false)=true)=>y42) (Ak 1 tv)) tv)) (An (An (fun (y44:(bif bif bif bif bif bif decide (roomE f 0=0) then decide (stripsE o=0) else false then decide (refuseE f=0) else false then decide (openF o (fitsG o 0 [2,0,0])=0) else false then decide (growE o 0=0) else false then decide (openF f (gapG f 1 3)=0) else false then decide (Span.lo (roomR f 0)=8) && (decide (Span.hi (roomR f 0)=9) && true) else false)=true)=>y44) (fun (y45:(bif bif bif bif bif bif decide (roomE f 0=0) then decide (stripsE o=0) else false then decide (refuseE f=0) else false then decide (openF o (fitsG o 0 [2,0,0])=0) else false then decide (growE o 0=0) else false then decide (openF f (gapG f 1 3)=0) else false then decide (Span.lo (roomR f 0)=8) && (decide (Span.hi (roomR f 0)=9) && true) else false)=false)=>tv)) (Ak 1 (An (fun (y46:(bif bif bif bif bif bif bif decide (roomE f 0=0) then decide (stripsE o=0) else false then decide (refuseE f=0) else false then decide (openF o (fitsG o 0 [2,0,0])=0) else false then decide (growE o 0=0) else false then decide (openF f (gapG f 1 3)=0) else false then decide (Span.lo (roomR f 0)=8) && (decide (Span.hi (roomR f 0)=9) && true) else false then decide (stripsN o=4) else false)=true)=>(An (Ak 1 tv) tv)) (An (fun (y47:(bif bif bif bif bif bif bif decide (roomE f 0=0) then decide (stripsE o=0) else false then decide (refuseE f=0) else false then decide (openF o (fitsG o 0 [2,0,0])=0) else false then decide (growE o 0=0) else false then decide (openF f (gapG f 1 3)=0) else false then decide (Span.lo (roomR f 0)=8) && (decide (Span.hi (roomR f 0)=9) && true) else false then decide (stripsN o=4) else false)=true)=>(An (Ak 1 tv) tv)) (An (fun (y48:(bif bif bif bif bif bif bif decide (roomE f 0=0) then decide (stripsE o=0) else false then decide (refuseE f=0) else false then decide (openF o (fitsG o 0 [2,0,0])=0) else false then decide (growE o 0=0) else false then decide (openF f (gapG f 1 3)=0) else false then decide (Span.lo (roomR f 0)=8) && (decide (Span.hi (roomR f 0)=9) && true) else false then decide (stripsN o=4) else false)=true)=>(An (Ak 1 (An (fun (y49:(bif bif bif bif bif bif bif decide (roomE f 0=0) then decide (stripsE o=0) else false then decide (refuseE f=0) else false then decide (openF o (fitsG o 0 [2,0,0])=0) else false then decide (growE o 0=0) else false then decide (openF f (gapG f 1 3)=0) else false then decide (Span.lo (roomR f 0)=8) && (decide (Span.hi (roomR f 0)=9) && true) else false then decide (stripsN o=4) else false)=true)=>y48) (An (fun (y50:(bif bif bif bif bif bif bif decide (roomE f 0=0) then decide (stripsE o=0) else false then decide (refuseE f=0) else false then decide (openF o (fitsG o 0 [2,0,0])=0) else false then decide (growE o 0=0) else false then decide (openF f (gapG f 1 3)=0) else false then decide (Span.lo (roomR f 0)=8) && (decide (Span.hi (roomR f 0)=9) && true) else false then decide (stripsN o=4) else false)=true)=>y48) tv))) (An (An (An (zr 1) (An (zr (List.length (refuseL f))) (fun (i51:Nat)=>(fun (y52:i51 < List.length (refuseL f))=>(zr ([iv (List.getD (refuseL f) i51 0)])))))) (An (An (zr 1) (An (zr 1) (fun (i53:Nat)=>(fun (y54:i53 < List.length [3])=>(o7 hpre y48 i53 y54))))) tv)) (An (t40 (refuseL f) ([3])) (An (o8 hpre y48) (Ak 1 (fun (i55:Env)=>tv))))))) (An (An (fun (y56:(bif bif bif bif bif bif bif decide (roomE f 0=0) then decide (stripsE o=0) else false then decide (refuseE f=0) else false then decide (openF o (fitsG o 0 [2,0,0])=0) else false then decide (growE o 0=0) else false then decide (openF f (gapG f 1 3)=0) else false then decide (Span.lo (roomR f 0)=8) && (decide (Span.hi (roomR f 0)=9) && true) else false then decide (stripsN o=4) else false)=true)=>y56) (fun (y57:(bif bif bif bif bif bif bif decide (roomE f 0=0) then decide (stripsE o=0) else false then decide (refuseE f=0) else false then decide (openF o (fitsG o 0 [2,0,0])=0) else false then decide (growE o 0=0) else false then decide (openF f (gapG f 1 3)=0) else false then decide (Span.lo (roomR f 0)=8) && (decide (Span.hi (roomR f 0)=9) && true) else false then decide (stripsN o=4) else false)=false)=>tv)) (Ak 1 (An (fun (y58:(bif bif bif bif bif bif bif bif decide (roomE f 0=0) then decide (stripsE o=0) else false then decide (refuseE f=0) else false then decide (openF o (fitsG o 0 [2,0,0])=0) else false then decide (growE o 0=0) else false then decide (openF f (gapG f 1 3)=0) else false then decide (Span.lo (roomR f 0)=8) && (decide (Span.hi (roomR f 0)=9) && true) else false then decide (stripsN o=4) else false then sameInts (refuseL f) [3] else false)=true)=>(An (Ak 1 tv) tv)) (An (fun (y59:(bif bif bif bif bif bif bif bif decide (roomE f 0=0) then decide (stripsE o=0) else false then decide (refuseE f=0) else false then decide (openF o (fitsG o 0 [2,0,0])=0) else false then decide (growE o 0=0) else false then decide (openF f (gapG f 1 3)=0) else false then decide (Span.lo (roomR f 0)=8) && (decide (Span.hi (roomR f 0)=9) && true) else false then decide (stripsN o=4) else false then sameInts (refuseL f) [3] else false)=true)=>(An (An (fun (y60:(bif bif bif bif bif bif bif bif decide (roomE f 0=0) then decide (stripsE o=0) else false then decide (refuseE f=0) else false then decide (openF o (fitsG o 0 [2,0,0])=0) else false then decide (growE o 0=0) else false then decide (openF f (gapG f 1 3)=0) else false then decide (Span.lo (roomR f 0)=8) && (decide (Span.hi (roomR f 0)=9) && true) else false then decide (stripsN o=4) else false then sameInts (refuseL f) [3] else false)=true)=>y59) (Ak 1 tv)) tv)) (An (An (fun (y61:(bif bif bif bif bif bif bif bif decide (roomE f 0=0) then decide (stripsE o=0) else false then decide (refuseE f=0) else false then decide (openF o (fitsG o 0 [2,0,0])=0) else false then decide (growE o 0=0) else false then decide (openF f (gapG f 1 3)=0) else false then decide (Span.lo (roomR f 0)=8) && (decide (Span.hi (roomR f 0)=9) && true) else false then decide (stripsN o=4) else false then sameInts (refuseL f) [3] else false)=true)=>y61) (fun (y62:(bif bif bif bif bif bif bif bif decide (roomE f 0=0) then decide (stripsE o=0) else false then decide (refuseE f=0) else false then decide (openF o (fitsG o 0 [2,0,0])=0) else false then decide (growE o 0=0) else false then decide (openF f (gapG f 1 3)=0) else false then decide (Span.lo (roomR f 0)=8) && (decide (Span.hi (roomR f 0)=9) && true) else false then decide (stripsN o=4) else false then sameInts (refuseL f) [3] else false)=false)=>tv)) (Ak 1 (An (fun (y63:(bif bif bif bif bif bif bif bif bif decide (roomE f 0=0) then decide (stripsE o=0) else false then decide (refuseE f=0) else false then decide (openF o (fitsG o 0 [2,0,0])=0) else false then decide (growE o 0=0) else false then decide (openF f (gapG f 1 3)=0) else false then decide (Span.lo (roomR f 0)=8) && (decide (Span.hi (roomR f 0)=9) && true) else false then decide (stripsN o=4) else false then sameInts (refuseL f) [3] else false then decide (fitsP o 0 [2,0,0]=3) else false)=true)=>(An (Ak 1 tv) tv)) (An (fun (y64:(bif bif bif bif bif bif bif bif bif decide (roomE f 0=0) then decide (stripsE o=0) else false then decide (refuseE f=0) else false then decide (openF o (fitsG o 0 [2,0,0])=0) else false then decide (growE o 0=0) else false then decide (openF f (gapG f 1 3)=0) else false then decide (Span.lo (roomR f 0)=8) && (decide (Span.hi (roomR f 0)=9) && true) else false then decide (stripsN o=4) else false then sameInts (refuseL f) [3] else false then decide (fitsP o 0 [2,0,0]=3) else false)=true)=>(An (An (fun (y65:(bif bif bif bif bif bif bif bif bif decide (roomE f 0=0) then decide (stripsE o=0) else false then decide (refuseE f=0) else false then decide (openF o (fitsG o 0 [2,0,0])=0) else false then decide (growE o 0=0) else false then decide (openF f (gapG f 1 3)=0) else false then decide (Span.lo (roomR f 0)=8) && (decide (Span.hi (roomR f 0)=9) && true) else false then decide (stripsN o=4) else false then sameInts (refuseL f) [3] else false then decide (fitsP o 0 [2,0,0]=3) else false)=true)=>y64) (Ak 1 tv)) tv)) (An (An (fun (y66:(bif bif bif bif bif bif bif bif bif decide (roomE f 0=0) then decide (stripsE o=0) else false then decide (refuseE f=0) else false then decide (openF o (fitsG o 0 [2,0,0])=0) else false then decide (growE o 0=0) else false then decide (openF f (gapG f 1 3)=0) else false then decide (Span.lo (roomR f 0)=8) && (decide (Span.hi (roomR f 0)=9) && true) else false then decide (stripsN o=4) else false then sameInts (refuseL f) [3] else false then decide (fitsP o 0 [2,0,0]=3) else false)=true)=>y66) (fun (y67:(bif bif bif bif bif bif bif bif bif decide (roomE f 0=0) then decide (stripsE o=0) else false then decide (refuseE f=0) else false then decide (openF o (fitsG o 0 [2,0,0])=0) else false then decide (growE o 0=0) else false then decide (openF f (gapG f 1 3)=0) else false then decide (Span.lo (roomR f 0)=8) && (decide (Span.hi (roomR f 0)=9) && true) else false then decide (stripsN o=4) else false then sameInts (refuseL f) [3] else false then decide (fitsP o 0 [2,0,0]=3) else false)=false)=>tv)) (Ak 1 (An (fun (y68:(bif bif bif bif bif bif bif bif bif bif decide (roomE f 0=0) then decide (stripsE o=0) else false then decide (refuseE f=0) else false then decide (openF o (fitsG o 0 [2,0,0])=0) else false then decide (growE o 0=0) else false then decide (openF f (gapG f 1 3)=0) else false then decide (Span.lo (roomR f 0)=8) && (decide (Span.hi (roomR f 0)=9) && true) else false then decide (stripsN o=4) else false then sameInts (refuseL f) [3] else false then decide (fitsP o 0 [2,0,0]=3) else false then decide (growN o 0=22) else false)=true)=>(An (Ak 1 tv) tv)) (An (fun (y69:(bif bif bif bif bif bif bif bif bif bif decide (roomE f 0=0) then decide (stripsE o=0) else false then decide (refuseE f=0) else false then decide (openF o (fitsG o 0 [2,0,0])=0) else false then decide (growE o 0=0) else false then decide (openF f (gapG f 1 3)=0) else false then decide (Span.lo (roomR f 0)=8) && (decide (Span.hi (roomR f 0)=9) && true) else false then decide (stripsN o=4) else false then sameInts (refuseL f) [3] else false then decide (fitsP o 0 [2,0,0]=3) else false then decide (growN o 0=22) else false)=true)=>(An (Ak 2 tv) tv)) (An (fun (y70:(bif bif bif bif bif bif bif bif bif bif decide (roomE f 0=0) then decide (stripsE o=0) else false then decide (refuseE f=0) else false then decide (openF o (fitsG o 0 [2,0,0])=0) else false then decide (growE o 0=0) else false then decide (openF f (gapG f 1 3)=0) else false then decide (Span.lo (roomR f 0)=8) && (decide (Span.hi (roomR f 0)=9) && true) else false then decide (stripsN o=4) else false then sameInts (refuseL f) [3] else false then decide (fitsP o 0 [2,0,0]=3) else false then decide (growN o 0=22) else false)=true)=>(An (An (fun (y71:(bif bif bif bif bif bif bif bif bif bif decide (roomE f 0=0) then decide (stripsE o=0) else false then decide (refuseE f=0) else false then decide (openF o (fitsG o 0 [2,0,0])=0) else false then decide (growE o 0=0) else false then decide (openF f (gapG f 1 3)=0) else false then decide (Span.lo (roomR f 0)=8) && (decide (Span.hi (roomR f 0)=9) && true) else false then decide (stripsN o=4) else false then sameInts (refuseL f) [3] else false then decide (fitsP o 0 [2,0,0]=3) else false then decide (growN o 0=22) else false)=true)=>y70) (An (fun (y72:(bif bif bif bif bif bif bif bif bif bif decide (roomE f 0=0) then decide (stripsE o=0) else false then decide (refuseE f=0) else false then decide (openF o (fitsG o 0 [2,0,0])=0) else false then decide (growE o 0=0) else false then decide (openF f (gapG f 1 3)=0) else false then decide (Span.lo (roomR f 0)=8) && (decide (Span.hi (roomR f 0)=9) && true) else false then decide (stripsN o=4) else false then sameInts (refuseL f) [3] else false then decide (fitsP o 0 [2,0,0]=3) else false then decide (growN o 0=22) else false)=true)=>y70) tv)) tv)) (An (An (fun (y73:(bif bif bif bif bif bif bif bif bif bif decide (roomE f 0=0) then decide (stripsE o=0) else false then decide (refuseE f=0) else false then decide (openF o (fitsG o 0 [2,0,0])=0) else false then decide (growE o 0=0) else false then decide (openF f (gapG f 1 3)=0) else false then decide (Span.lo (roomR f 0)=8) && (decide (Span.hi (roomR f 0)=9) && true) else false then decide (stripsN o=4) else false then sameInts (refuseL f) [3] else false then decide (fitsP o 0 [2,0,0]=3) else false then decide (growN o 0=22) else false)=true)=>y73) (fun (y74:(bif bif bif bif bif bif bif bif bif bif decide (roomE f 0=0) then decide (stripsE o=0) else false then decide (refuseE f=0) else false then decide (openF o (fitsG o 0 [2,0,0])=0) else false then decide (growE o 0=0) else false then decide (openF f (gapG f 1 3)=0) else false then decide (Span.lo (roomR f 0)=8) && (decide (Span.hi (roomR f 0)=9) && true) else false then decide (stripsN o=4) else false then sameInts (refuseL f) [3] else false then decide (fitsP o 0 [2,0,0]=3) else false then decide (growN o 0=22) else false)=false)=>tv)) (Ak 1 tv)))))))))))))))))))))))))))))))))))))))))))))))) ?_
 refine swp_ret ?_
 exact zT [] (An (Ak 1 tv) (An (An (cb (o9 hpre)) (zr nilN)) (An (zr true) (An (zr true) (zr true)))))
set_option maxRecDepth 4000
theorem x_room:roomR exP 0=⟨8,9⟩/\roomE exP 0=0:=by decide +kernel
theorem x_strips:stripsN exO=4/\stripsE exO=0:=by decide +kernel
theorem x_ref:refuseL exP = [3]/\refuseE exP=0:=by decide +kernel
theorem x_fits:fitsP exO 0 [2,0,0]=3/\openF exO (fitsG exO 0 [2,0,0])=0:=by decide +kernel
theorem x_grow:growN exO 0=22/\growE exO 0=0:=by decide +kernel
theorem x_gap:gapR exP 1 3=⟨19,21⟩/\openF exP (gapG exP 1 3)=0:=by decide +kernel
theorem tw20 (f o:Frm):Triple Try.prog 20 (sw20 f o):=by
 apply w20
 all_goals (rintro ⟨rfl,rfl⟩)
 case o3 =>
  intro i hi
  have:i=0 ∨ i=1 ∨ i=2:=by simp at hi; omega
  rcases this with rfl | rfl | rfl <;> rfl
 case o7 =>
  intro _ i hi
  have:i=0:=by simpa using hi
  subst this; rfl
 case o8=>intro _; decide
 case o9 =>
  obtain ⟨a1,a2⟩:=x_room
  obtain ⟨b1,b2⟩:=x_strips
  obtain ⟨c1,c2⟩:=x_ref
  obtain ⟨d1,d2⟩:=x_fits
  obtain ⟨e1,e2⟩:=x_grow
  obtain ⟨g1,g2⟩:=x_gap
  rw [a1,a2,b1,b2,c1,c2,d1,d2,e1,e2,g1,g2]; (repeat intro _); rfl
 all_goals (first | exact small_exP | exact small_exO | skip)
theorem t20:Triple Try.prog 20 s20:=⟨(tw20 exP exO).1,fun _=>(tw20 exP exO).2 ⟨rfl,rfl⟩⟩
theorem sound_small {f:Frm} (h:Sound f):smallF f:=by
 have h1:=h.strips
 have h2:=h.pieces
 have h3:=h.columns
 exact ⟨by omega,by omega,by omega,fun i=>by have:=h.colLen i; omega⟩
theorem ready_ok {f:Frm} (h:readyF f=true):okFrm f=true/\Sound f/\smallF f:=by
 unfold readyF at h
 rw [Bool.and_eq_true] at h
 have:=sound_of h.2
 exact ⟨h.2,this,sound_small this⟩
end Go.Ab
namespace Go.Sh
open Go.Ab
variable {f:Frm}
end Go.Sh
namespace Go.Sh
open Go.Ab
variable {f:Frm}
end Go.Sh
namespace Go.Sh
end Go.Sh
namespace Go.Ab
open Go Go.RowKit Go.Proofs Go.Sh Go.En
abbrev hC (f:Frm) (c:Int):Span:=highP f (col f c.toNat)
end Go.Ab
namespace Go.Ab
open Go Go.RowKit Go.Proofs Go.Sh Go.En
end Go.Ab
namespace Go.Sh
structure Nar where
 piece:Int
 lo:Int
 hi:Int
 one:Int
 other:Int
end Go.Sh
namespace Go.En
open Go Go.Ab Go.Sh
end Go.En
namespace Go.Ab
open Go Go.RowKit Go.Proofs Go.Sh Go.En
def s13 (f:Frm) (a b:Int):CallSpec:={ args:=[vFrm f,iv a,iv b],res:=bv true,pre:=fitsF f }
def e5 (f:Frm) (c:Int) (set:List Int):List (Nat × OB):=[(112,.cells 26 (cFrm f))]
end Go.Ab
namespace Go.Ab
open Go Go.RowKit Go.Proofs Go.Sh Go.En
theorem nbor3x {a b c:Bool} (h:(bif bif !a then true else !b then true else !c)=false):a=true/\b=true/\c=true:=by cases a <;> cases b <;> cases c <;> first | exact ⟨rfl,rfl,rfl⟩ | cases h
theorem open_gap {f:Frm} (h:okFrm f=true) {a b:Int} (ha:isPc f a=true) (hb:isPc f b=true):decide (openF f (gapG f a b)=0)=true:=by unfold openF gapG; rw [h,ha,hb]; rfl
theorem w13 (f:Frm) (a:Int) (b:Int)
  (o0:fitsF f->(!readyF f)=false->(!!readyF f)=true)
  (o1:fitsF f->(bif !readyF f then true else !isPc f a)=false->(!bif !readyF f then true else !isPc f a)=true)
  (o2:fitsF f->(bif bif !readyF f then true else !isPc f a then true else !isPc f b)=false->smallF f)
  (o3:fitsF f->(bif bif !readyF f then true else !isPc f a then true else !isPc f b)=false->smallF f)
  (o4:fitsF f->(bif bif !readyF f then true else !isPc f a then true else !isPc f b)=false->smallF f)
  (o5:fitsF f->(bif bif !readyF f then true else !isPc f a then true else !isPc f b)=false->smallF f)
  (o6:fitsF f->(bif bif !readyF f then true else !isPc f a then true else !isPc f b)=false->smallF f)
  (o7:fitsF f->(bif bif !readyF f then true else !isPc f a then true else !isPc f b)=false->(!decide (openF f (gapG f a b)=0))=false->(!!decide (openF f (gapG f a b)=0))=true)
  (o8:fitsF f->(bif bif !readyF f then true else !isPc f a then true else !isPc f b)=false->(bif !decide (openF f (gapG f a b)=0) then true else !decide (openF f (gapG f b a)=0))=false->(!bif !decide (openF f (gapG f a b)=0) then true else !decide (openF f (gapG f b a)=0))=true)
  (o9:fitsF f->(bif bif !readyF f then true else !isPc f a then true else !isPc f b)=false->(bif bif !decide (openF f (gapG f a b)=0) then true else !decide (openF f (gapG f b a)=0) then true else !decide (openF f (gapG f a a)=0))=false->(!bif bif !decide (openF f (gapG f a b)=0) then true else !decide (openF f (gapG f b a)=0) then true else !decide (openF f (gapG f a a)=0))=true)
  (o10:fitsF f->(bif bif !readyF f then true else !isPc f a then true else !isPc f b)=false->(bif bif bif !decide (openF f (gapG f a b)=0) then true else !decide (openF f (gapG f b a)=0) then true else !decide (openF f (gapG f a a)=0) then true else !decide (openF f (gapG f a b)=0))=false->(!bif bif bif !decide (openF f (gapG f a b)=0) then true else !decide (openF f (gapG f b a)=0) then true else !decide (openF f (gapG f a a)=0) then true else !decide (openF f (gapG f a b)=0))=true)
  (o11:fitsF f->(bif bif !readyF f then true else !isPc f a then true else !isPc f b)=false->(bif bif bif bif !decide (openF f (gapG f a b)=0) then true else !decide (openF f (gapG f b a)=0) then true else !decide (openF f (gapG f a a)=0) then true else !decide (openF f (gapG f a b)=0) then true else !decide (openF f (gapG f b a)=0))=false->(!bif bif bif bif !decide (openF f (gapG f a b)=0) then true else !decide (openF f (gapG f b a)=0) then true else !decide (openF f (gapG f a a)=0) then true else !decide (openF f (gapG f a b)=0) then true else !decide (openF f (gapG f b a)=0))=true)
  (o12:fitsF f->(bif bif !readyF f then true else !isPc f a then true else !isPc f b)=false->(bif bif bif bif bif !decide (openF f (gapG f a b)=0) then true else !decide (openF f (gapG f b a)=0) then true else !decide (openF f (gapG f a a)=0) then true else !decide (openF f (gapG f a b)=0) then true else !decide (openF f (gapG f b a)=0) then true else !decide (meetsP f a b=meetsP f b a))=false->(!bif bif bif bif bif !decide (openF f (gapG f a b)=0) then true else !decide (openF f (gapG f b a)=0) then true else !decide (openF f (gapG f a a)=0) then true else !decide (openF f (gapG f a b)=0) then true else !decide (openF f (gapG f b a)=0) then true else !decide (meetsP f a b=meetsP f b a))=true)
  (o13:fitsF f->(bif bif !readyF f then true else !isPc f a then true else !isPc f b)=false->(bif bif bif bif bif bif !decide (openF f (gapG f a b)=0) then true else !decide (openF f (gapG f b a)=0) then true else !decide (openF f (gapG f a a)=0) then true else !decide (openF f (gapG f a b)=0) then true else !decide (openF f (gapG f b a)=0) then true else !decide (meetsP f a b=meetsP f b a) then true else !(decide (Span.lo (gapR f a a)=0) && (decide (Span.hi (gapR f a a)=0) && true)))=false->(!bif bif bif bif bif bif !decide (openF f (gapG f a b)=0) then true else !decide (openF f (gapG f b a)=0) then true else !decide (openF f (gapG f a a)=0) then true else !decide (openF f (gapG f a b)=0) then true else !decide (openF f (gapG f b a)=0) then true else !decide (meetsP f a b=meetsP f b a) then true else !(decide (Span.lo (gapR f a a)=0) && (decide (Span.hi (gapR f a a)=0) && true)))=true)
  (o14:fitsF f->(bif bif !readyF f then true else !isPc f a then true else !isPc f b)=false->(bif bif bif bif bif bif bif !decide (openF f (gapG f a b)=0) then true else !decide (openF f (gapG f b a)=0) then true else !decide (openF f (gapG f a a)=0) then true else !decide (openF f (gapG f a b)=0) then true else !decide (openF f (gapG f b a)=0) then true else !decide (meetsP f a b=meetsP f b a) then true else !(decide (Span.lo (gapR f a a)=0) && (decide (Span.hi (gapR f a a)=0) && true)) then true else !within (Span.lo (gapR f a b)) (-1000) (Span.hi (gapR f a b)))=false->(!bif bif bif bif bif bif bif !decide (openF f (gapG f a b)=0) then true else !decide (openF f (gapG f b a)=0) then true else !decide (openF f (gapG f a a)=0) then true else !decide (openF f (gapG f a b)=0) then true else !decide (openF f (gapG f b a)=0) then true else !decide (meetsP f a b=meetsP f b a) then true else !(decide (Span.lo (gapR f a a)=0) && (decide (Span.hi (gapR f a a)=0) && true)) then true else !within (Span.lo (gapR f a b)) (-1000) (Span.hi (gapR f a b)))=true)
  (o15:fitsF f->(bif bif !readyF f then true else !isPc f a then true else !isPc f b)=false->(bif bif bif bif bif bif bif bif !decide (openF f (gapG f a b)=0) then true else !decide (openF f (gapG f b a)=0) then true else !decide (openF f (gapG f a a)=0) then true else !decide (openF f (gapG f a b)=0) then true else !decide (openF f (gapG f b a)=0) then true else !decide (meetsP f a b=meetsP f b a) then true else !(decide (Span.lo (gapR f a a)=0) && (decide (Span.hi (gapR f a a)=0) && true)) then true else !within (Span.lo (gapR f a b)) (-1000) (Span.hi (gapR f a b)) then true else decide (1000 < Span.hi (gapR f a b)))=true->false=true)
  (o16:fitsF f->(bif bif !readyF f then true else !isPc f a then true else !isPc f b)=false->(bif bif bif bif bif bif bif bif !decide (openF f (gapG f a b)=0) then true else !decide (openF f (gapG f b a)=0) then true else !decide (openF f (gapG f a a)=0) then true else !decide (openF f (gapG f a b)=0) then true else !decide (openF f (gapG f b a)=0) then true else !decide (meetsP f a b=meetsP f b a) then true else !(decide (Span.lo (gapR f a a)=0) && (decide (Span.hi (gapR f a a)=0) && true)) then true else !within (Span.lo (gapR f a b)) (-1000) (Span.hi (gapR f a b)) then true else decide (1000 < Span.hi (gapR f a b)))=false->inI (0 - Span.hi (gapR f a b)))
  (o17:fitsF f->(bif bif !readyF f then true else !isPc f a then true else !isPc f b)=false->(bif bif bif bif bif bif bif bif !decide (openF f (gapG f a b)=0) then true else !decide (openF f (gapG f b a)=0) then true else !decide (openF f (gapG f a a)=0) then true else !decide (openF f (gapG f a b)=0) then true else !decide (openF f (gapG f b a)=0) then true else !decide (meetsP f a b=meetsP f b a) then true else !(decide (Span.lo (gapR f a a)=0) && (decide (Span.hi (gapR f a a)=0) && true)) then true else !within (Span.lo (gapR f a b)) (-1000) (Span.hi (gapR f a b)) then true else decide (1000 < Span.hi (gapR f a b)))=false->decide (Span.lo (gapR f b a)=0 - Span.hi (gapR f a b))=true->inI (0 - Span.lo (gapR f a b)))
  (o18:fitsF f->(bif bif !readyF f then true else !isPc f a then true else !isPc f b)=false->(bif bif bif bif bif bif bif bif !decide (openF f (gapG f a b)=0) then true else !decide (openF f (gapG f b a)=0) then true else !decide (openF f (gapG f a a)=0) then true else !decide (openF f (gapG f a b)=0) then true else !decide (openF f (gapG f b a)=0) then true else !decide (meetsP f a b=meetsP f b a) then true else !(decide (Span.lo (gapR f a a)=0) && (decide (Span.hi (gapR f a a)=0) && true)) then true else !within (Span.lo (gapR f a b)) (-1000) (Span.hi (gapR f a b)) then true else decide (1000 < Span.hi (gapR f a b)))=false->(bif bif decide (Span.lo (gapR f b a)=0 - Span.hi (gapR f a b)) then decide (Span.hi (gapR f b a)=0 - Span.lo (gapR f a b)) else false then decide (meetsP f a b=1) == (decide (Span.lo (gapR f a b)=0) && (decide (Span.hi (gapR f a b)=0) && true)) else false)=true->decide (0 < Span.lo (gapR f a b))=false->((bif bif decide (Span.lo (gapR f b a)=0 - Span.hi (gapR f a b)) then decide (Span.hi (gapR f b a)=0 - Span.lo (gapR f a b)) else false then decide (meetsP f a b=1) == (decide (Span.lo (gapR f a b)=0) && (decide (Span.hi (gapR f a b)=0) && true)) else false) && !decide (0 < Span.lo (gapR f a b)))=true)
  (o19:fitsF f->(bif bif !readyF f then true else !isPc f a then true else !isPc f b)=false->(bif bif bif bif bif bif bif bif !decide (openF f (gapG f a b)=0) then true else !decide (openF f (gapG f b a)=0) then true else !decide (openF f (gapG f a a)=0) then true else !decide (openF f (gapG f a b)=0) then true else !decide (openF f (gapG f b a)=0) then true else !decide (meetsP f a b=meetsP f b a) then true else !(decide (Span.lo (gapR f a a)=0) && (decide (Span.hi (gapR f a a)=0) && true)) then true else !within (Span.lo (gapR f a b)) (-1000) (Span.hi (gapR f a b)) then true else decide (1000 < Span.hi (gapR f a b)))=false->(bif bif bif bif decide (Span.lo (gapR f b a)=0 - Span.hi (gapR f a b)) then decide (Span.hi (gapR f b a)=0 - Span.lo (gapR f a b)) else false then decide (meetsP f a b=1) == (decide (Span.lo (gapR f a b)=0) && (decide (Span.hi (gapR f a b)=0) && true)) else false then decide (meetsP f a b=2) == bif decide (0 < Span.lo (gapR f a b)) then true else decide (Span.hi (gapR f a b) < 0) else false then true else false)=true) :
  Triple Try.prog 13 (s13 f a b):=by
 refine triple_of Try.func13 rfl Try.call13 T0_ok _ rfl rfl rfl rfl (Nat.le_of_ble_eq_true (by kernel_rfl)) (fun _ _ _ _ h=>h) ?_
 intro hpre C hC _ hE
 obtain ⟨P,w0,E0,av,hA,ro,df⟩:=C
 obtain ⟨rfl,rfl,rfl⟩:=hC
 refine swp_seq ?_
 refine zR [1,2,3] [0] (Ak 2 tv) ?_
 refine swp_seq ?_
 refine swp_seq ?_
 refine zC ([(1,CallSpec.eq (s18 f) [true]),(6,CallSpec.eq (s25 f a) [true,true]),(12,CallSpec.eq (s25 f b) [true,true])]) [1,2,3,31] [0] (Ak 1 (An (An (An (zr (AV.agg (cFrm f))) tv) (An (t18 (f)) (An hpre (Ak 1 (fun (i0:Env)=>tv))))) (Ak 2 (An (fun (y1:(!!readyF f)=true)=>(An (Ak 1 tv) tv)) (An (fun (y2:(!!readyF f)=true)=>(An (Ak 1 tv) tv)) (An (fun (y3:(!!readyF f)=true)=>(An (Ak 1 (An (fun (y4:(!!readyF f)=true)=>y3) (An (fun (y5:(!!readyF f)=true)=>y3) tv))) (An (An (zr (AV.agg (cFrm f))) (An (zr (iv a)) tv)) (An (t25 (f) (a)) (An hpre (Ak 1 (fun (i6:Env)=>tv))))))) (An (fun (y7:(!!readyF f)=true)=>(An (An (fun (y8:(!!readyF f)=true)=>y7) tv) tv)) (An (An (fun (y9:(!readyF f)=true)=>tv) (fun (y10:(!readyF f)=false)=>(o0 hpre y10))) (Ak 1 (An (fun (y11:(!bif !readyF f then true else !isPc f a)=true)=>(An (Ak 1 tv) tv)) (An (fun (y12:(!bif !readyF f then true else !isPc f a)=true)=>(An (Ak 1 tv) tv)) (An (fun (y13:(!bif !readyF f then true else !isPc f a)=true)=>(An (Ak 1 (An (fun (y14:(!bif !readyF f then true else !isPc f a)=true)=>y13) (An (fun (y15:(!bif !readyF f then true else !isPc f a)=true)=>y13) tv))) (An (An (zr (AV.agg (cFrm f))) (An (zr (iv b)) tv)) (An (t25 (f) (b)) (An hpre (Ak 1 (fun (i16:Env)=>tv))))))) (An (fun (y17:(!bif !readyF f then true else !isPc f a)=true)=>(An (An (fun (y18:(!bif !readyF f then true else !isPc f a)=true)=>y17) tv) tv)) (An (An (fun (y19:(bif !readyF f then true else !isPc f a)=true)=>tv) (fun (y20:(bif !readyF f then true else !isPc f a)=false)=>(o1 hpre y20))) tv)))))))))))))) ?_
 refine zI (bif bif !readyF f then true else !isPc f a then true else !isPc f b) (fun y21 => ?_) (fun y21 => ?_)
 ·refine swp_seq ?_
  refine zC ([(0,CallSpec.eq s20 [])]) [6] [] (An (Ak 1 (An (t20) (Ak 2 (fun (i22:Env)=>tv)))) (Ak 1 tv)) ?_
  refine swp_ret ?_
  exact zT [] (An (Ak 1 tv) (An (An (zr (bv true)) (zr nilN)) (An (zr true) (An (zr true) (zr true)))))
 ·refine swp_skip ?_
  refine swp_seq ?_
  refine zC ([(3,CallSpec.eq (s48 f a b) [true,true,true])]) [1,2,3,7,8] [0,192] (Ak 3 (An (An (An (zr (AV.agg (cFrm f))) (An (zr (iv a)) (An (zr (iv b)) tv))) (An (t48 (f) (a) (b)) (An (o2 hpre y21) (Ak 1 (fun (i23:Env)=>tv))))) (Ak 6 tv))) ?_
  refine swp_seq ?_
  refine zC ([(3,CallSpec.eq (s48 f b a) [true,true,true])]) [1,2,3,7,8,9,10] [0,192,272] (Ak 3 (An (An (An (zr (AV.agg (cFrm f))) (An (zr (iv b)) (An (zr (iv a)) tv))) (An (t48 (f) (b) (a)) (An (o3 hpre y21) (Ak 1 (fun (i24:Env)=>tv))))) (Ak 6 tv))) ?_
  refine swp_seq ?_
  refine zC ([(3,CallSpec.eq (s48 f a a) [true,true,true])]) [1,2,3,7,8,9,10,11,12] [0,192,272,352] (Ak 3 (An (An (An (zr (AV.agg (cFrm f))) (An (zr (iv a)) (An (zr (iv a)) tv))) (An (t48 (f) (a) (a)) (An (o4 hpre y21) (Ak 1 (fun (i25:Env)=>tv))))) (Ak 6 tv))) ?_
  refine swp_seq ?_
  refine zC ([(3,CallSpec.eq (s67 f a b) [true,true,true])]) [1,2,3,7,8,9,10,11,12,13,14] [0,192,272,352] (Ak 3 (An (An (An (zr (AV.agg (cFrm f))) (An (zr (iv a)) (An (zr (iv b)) tv))) (An (t67 (f) (a) (b)) (An (o5 hpre y21) (Ak 1 (fun (i26:Env)=>tv))))) (Ak 5 tv))) ?_
  refine swp_seq ?_
  refine zC ([(3,CallSpec.eq (s67 f b a) [true,true,true])]) [7,8,9,10,11,12,13,14,15,16] [192,272,352] (Ak 3 (An (An (An (zr (AV.agg (cFrm f))) (An (zr (iv b)) (An (zr (iv a)) tv))) (An (t67 (f) (b) (a)) (An (o6 hpre y21) (Ak 1 (fun (i27:Env)=>tv))))) (Ak 5 tv))) ?_
  refine swp_seq ?_
  refine swp_seq ?_
  refine zC ([(33,CallSpec.eq (s28 (Span.lo (gapR f a b)) (-1000) (Span.hi (gapR f a b))) [true,true,true])]) [7,9,13,108] [192,272] (Ak 3 (An (fun (y28:(!!decide (openF f (gapG f a b)=0))=true)=>(An (Ak 1 tv) tv)) (An (fun (y29:(!!decide (openF f (gapG f a b)=0))=true)=>(An (An (fun (y30:(!!decide (openF f (gapG f a b)=0))=true)=>y29) (Ak 1 tv)) tv)) (An (An (fun (y31:(!decide (openF f (gapG f a b)=0))=true)=>tv) (fun (y32:(!decide (openF f (gapG f a b)=0))=false)=>(o7 hpre y21 y32))) (Ak 1 (An (fun (y33:(!bif !decide (openF f (gapG f a b)=0) then true else !decide (openF f (gapG f b a)=0))=true)=>(An (Ak 1 tv) tv)) (An (fun (y34:(!bif !decide (openF f (gapG f a b)=0) then true else !decide (openF f (gapG f b a)=0))=true)=>(An (An (fun (y35:(!bif !decide (openF f (gapG f a b)=0) then true else !decide (openF f (gapG f b a)=0))=true)=>y34) (Ak 1 tv)) tv)) (An (An (fun (y36:(bif !decide (openF f (gapG f a b)=0) then true else !decide (openF f (gapG f b a)=0))=true)=>tv) (fun (y37:(bif !decide (openF f (gapG f a b)=0) then true else !decide (openF f (gapG f b a)=0))=false)=>(o8 hpre y21 y37))) (Ak 1 (An (fun (y38:(!bif bif !decide (openF f (gapG f a b)=0) then true else !decide (openF f (gapG f b a)=0) then true else !decide (openF f (gapG f a a)=0))=true)=>(An (Ak 1 tv) tv)) (An (fun (y39:(!bif bif !decide (openF f (gapG f a b)=0) then true else !decide (openF f (gapG f b a)=0) then true else !decide (openF f (gapG f a a)=0))=true)=>(An (An (fun (y40:(!bif bif !decide (openF f (gapG f a b)=0) then true else !decide (openF f (gapG f b a)=0) then true else !decide (openF f (gapG f a a)=0))=true)=>y39) (Ak 1 tv)) tv)) (An (An (fun (y41:(bif bif !decide (openF f (gapG f a b)=0) then true else !decide (openF f (gapG f b a)=0) then true else !decide (openF f (gapG f a a)=0))=true)=>tv) (fun (y42:(bif bif !decide (openF f (gapG f a b)=0) then true else !decide (openF f (gapG f b a)=0) then true else !decide (openF f (gapG f a a)=0))=false)=>(o9 hpre y21 y42))) (Ak 1 (An (fun (y43:(!bif bif bif !decide (openF f (gapG f a b)=0) then true else !decide (openF f (gapG f b a)=0) then true else !decide (openF f (gapG f a a)=0) then true else !decide (openF f (gapG f a b)=0))=true)=>(An (Ak 1 tv) tv)) (An (fun (y44:(!bif bif bif !decide (openF f (gapG f a b)=0) then true else !decide (openF f (gapG f b a)=0) then true else !decide (openF f (gapG f a a)=0) then true else !decide (openF f (gapG f a b)=0))=true)=>(An (An (fun (y45:(!bif bif bif !decide (openF f (gapG f a b)=0) then true else !decide (openF f (gapG f b a)=0) then true else !decide (openF f (gapG f a a)=0) then true else !decide (openF f (gapG f a b)=0))=true)=>y44) (Ak 1 tv)) tv)) (An (An (fun (y46:(bif bif bif !decide (openF f (gapG f a b)=0) then true else !decide (openF f (gapG f b a)=0) then true else !decide (openF f (gapG f a a)=0) then true else !decide (openF f (gapG f a b)=0))=true)=>tv) (fun (y47:(bif bif bif !decide (openF f (gapG f a b)=0) then true else !decide (openF f (gapG f b a)=0) then true else !decide (openF f (gapG f a a)=0) then true else !decide (openF f (gapG f a b)=0))=false)=>(o10 hpre y21 y47))) (Ak 1 (An (fun (y48:(!bif bif bif bif !decide (openF f (gapG f a b)=0) then true else !decide (openF f (gapG f b a)=0) then true else !decide (openF f (gapG f a a)=0) then true else !decide (openF f (gapG f a b)=0) then true else !decide (openF f (gapG f b a)=0))=true)=>(An (Ak 1 tv) tv)) (An (fun (y49:(!bif bif bif bif !decide (openF f (gapG f a b)=0) then true else !decide (openF f (gapG f b a)=0) then true else !decide (openF f (gapG f a a)=0) then true else !decide (openF f (gapG f a b)=0) then true else !decide (openF f (gapG f b a)=0))=true)=>(An (Ak 1 tv) tv)) (An (fun (y50:(!bif bif bif bif !decide (openF f (gapG f a b)=0) then true else !decide (openF f (gapG f b a)=0) then true else !decide (openF f (gapG f a a)=0) then true else !decide (openF f (gapG f a b)=0) then true else !decide (openF f (gapG f b a)=0))=true)=>(An (An (fun (y51:(!bif bif bif bif !decide (openF f (gapG f a b)=0) then true else !decide (openF f (gapG f b a)=0) then true else !decide (openF f (gapG f a a)=0) then true else !decide (openF f (gapG f a b)=0) then true else !decide (openF f (gapG f b a)=0))=true)=>y50) (An (fun (y52:(!bif bif bif bif !decide (openF f (gapG f a b)=0) then true else !decide (openF f (gapG f b a)=0) then true else !decide (openF f (gapG f a a)=0) then true else !decide (openF f (gapG f a b)=0) then true else !decide (openF f (gapG f b a)=0))=true)=>y50) tv)) tv)) (An (An (fun (y53:(bif bif bif bif !decide (openF f (gapG f a b)=0) then true else !decide (openF f (gapG f b a)=0) then true else !decide (openF f (gapG f a a)=0) then true else !decide (openF f (gapG f a b)=0) then true else !decide (openF f (gapG f b a)=0))=true)=>tv) (fun (y54:(bif bif bif bif !decide (openF f (gapG f a b)=0) then true else !decide (openF f (gapG f b a)=0) then true else !decide (openF f (gapG f a a)=0) then true else !decide (openF f (gapG f a b)=0) then true else !decide (openF f (gapG f b a)=0))=false)=>(o11 hpre y21 y54))) (Ak 1 (An (fun (y55:(!bif bif bif bif bif !decide (openF f (gapG f a b)=0) then true else !decide (openF f (gapG f b a)=0) then true else !decide (openF f (gapG f a a)=0) then true else !decide (openF f (gapG f a b)=0) then true else !decide (openF f (gapG f b a)=0) then true else !decide (meetsP f a b=meetsP f b a))=true)=>(An (Ak 1 tv) tv)) (An (fun (y56:(!bif bif bif bif bif !decide (openF f (gapG f a b)=0) then true else !decide (openF f (gapG f b a)=0) then true else !decide (openF f (gapG f a a)=0) then true else !decide (openF f (gapG f a b)=0) then true else !decide (openF f (gapG f b a)=0) then true else !decide (meetsP f a b=meetsP f b a))=true)=>(Ak 1 tv)) (An (fun (y57:(!bif bif bif bif bif !decide (openF f (gapG f a b)=0) then true else !decide (openF f (gapG f b a)=0) then true else !decide (openF f (gapG f a a)=0) then true else !decide (openF f (gapG f a b)=0) then true else !decide (openF f (gapG f b a)=0) then true else !decide (meetsP f a b=meetsP f b a))=true)=>(An (An (fun (y58:(!bif bif bif bif bif !decide (openF f (gapG f a b)=0) then true else !decide (openF f (gapG f b a)=0) then true else !decide (openF f (gapG f a a)=0) then true else !decide (openF f (gapG f a b)=0) then true else !decide (openF f (gapG f b a)=0) then true else !decide (meetsP f a b=meetsP f b a))=true)=>y57) (An (fun (y59:(!bif bif bif bif bif !decide (openF f (gapG f a b)=0) then true else !decide (openF f (gapG f b a)=0) then true else !decide (openF f (gapG f a a)=0) then true else !decide (openF f (gapG f a b)=0) then true else !decide (openF f (gapG f b a)=0) then true else !decide (meetsP f a b=meetsP f b a))=true)=>y57) tv)) tv)) (An (An (fun (y60:(bif bif bif bif bif !decide (openF f (gapG f a b)=0) then true else !decide (openF f (gapG f b a)=0) then true else !decide (openF f (gapG f a a)=0) then true else !decide (openF f (gapG f a b)=0) then true else !decide (openF f (gapG f b a)=0) then true else !decide (meetsP f a b=meetsP f b a))=true)=>tv) (fun (y61:(bif bif bif bif bif !decide (openF f (gapG f a b)=0) then true else !decide (openF f (gapG f b a)=0) then true else !decide (openF f (gapG f a a)=0) then true else !decide (openF f (gapG f a b)=0) then true else !decide (openF f (gapG f b a)=0) then true else !decide (meetsP f a b=meetsP f b a))=false)=>(o12 hpre y21 y61))) (Ak 1 (An (fun (y62:(!bif bif bif bif bif bif !decide (openF f (gapG f a b)=0) then true else !decide (openF f (gapG f b a)=0) then true else !decide (openF f (gapG f a a)=0) then true else !decide (openF f (gapG f a b)=0) then true else !decide (openF f (gapG f b a)=0) then true else !decide (meetsP f a b=meetsP f b a) then true else !(decide (Span.lo (gapR f a a)=0) && (decide (Span.hi (gapR f a a)=0) && true)))=true)=>(An (Ak 1 tv) tv)) (An (fun (y63:(!bif bif bif bif bif bif !decide (openF f (gapG f a b)=0) then true else !decide (openF f (gapG f b a)=0) then true else !decide (openF f (gapG f a a)=0) then true else !decide (openF f (gapG f a b)=0) then true else !decide (openF f (gapG f b a)=0) then true else !decide (meetsP f a b=meetsP f b a) then true else !(decide (Span.lo (gapR f a a)=0) && (decide (Span.hi (gapR f a a)=0) && true)))=true)=>(An (An (fun (y64:(!bif bif bif bif bif bif !decide (openF f (gapG f a b)=0) then true else !decide (openF f (gapG f b a)=0) then true else !decide (openF f (gapG f a a)=0) then true else !decide (openF f (gapG f a b)=0) then true else !decide (openF f (gapG f b a)=0) then true else !decide (meetsP f a b=meetsP f b a) then true else !(decide (Span.lo (gapR f a a)=0) && (decide (Span.hi (gapR f a a)=0) && true)))=true)=>y63) tv) tv)) (An (fun (y65:(!bif bif bif bif bif bif !decide (openF f (gapG f a b)=0) then true else !decide (openF f (gapG f b a)=0) then true else !decide (openF f (gapG f a a)=0) then true else !decide (openF f (gapG f a b)=0) then true else !decide (openF f (gapG f b a)=0) then true else !decide (meetsP f a b=meetsP f b a) then true else !(decide (Span.lo (gapR f a a)=0) && (decide (Span.hi (gapR f a a)=0) && true)))=true)=>(An (Ak 1 tv) tv)) (An (fun (y66:(!bif bif bif bif bif bif !decide (openF f (gapG f a b)=0) then true else !decide (openF f (gapG f b a)=0) then true else !decide (openF f (gapG f a a)=0) then true else !decide (openF f (gapG f a b)=0) then true else !decide (openF f (gapG f b a)=0) then true else !decide (meetsP f a b=meetsP f b a) then true else !(decide (Span.lo (gapR f a a)=0) && (decide (Span.hi (gapR f a a)=0) && true)))=true)=>(An (An (fun (y67:(!bif bif bif bif bif bif !decide (openF f (gapG f a b)=0) then true else !decide (openF f (gapG f b a)=0) then true else !decide (openF f (gapG f a a)=0) then true else !decide (openF f (gapG f a b)=0) then true else !decide (openF f (gapG f b a)=0) then true else !decide (meetsP f a b=meetsP f b a) then true else !(decide (Span.lo (gapR f a a)=0) && (decide (Span.hi (gapR f a a)=0) && true)))=true)=>y66) tv) tv)) (An (fun (y68:(!bif bif bif bif bif bif !decide (openF f (gapG f a b)=0) then true else !decide (openF f (gapG f b a)=0) then true else !decide (openF f (gapG f a a)=0) then true else !decide (openF f (gapG f a b)=0) then true else !decide (openF f (gapG f b a)=0) then true else !decide (meetsP f a b=meetsP f b a) then true else !(decide (Span.lo (gapR f a a)=0) && (decide (Span.hi (gapR f a a)=0) && true)))=true)=>(An (Ak 1 (An (fun (y69:(!bif bif bif bif bif bif !decide (openF f (gapG f a b)=0) then true else !decide (openF f (gapG f b a)=0) then true else !decide (openF f (gapG f a a)=0) then true else !decide (openF f (gapG f a b)=0) then true else !decide (openF f (gapG f b a)=0) then true else !decide (meetsP f a b=meetsP f b a) then true else !(decide (Span.lo (gapR f a a)=0) && (decide (Span.hi (gapR f a a)=0) && true)))=true)=>y68) (Ak 1 (An (fun (y70:(!bif bif bif bif bif bif !decide (openF f (gapG f a b)=0) then true else !decide (openF f (gapG f b a)=0) then true else !decide (openF f (gapG f a a)=0) then true else !decide (openF f (gapG f a b)=0) then true else !decide (openF f (gapG f b a)=0) then true else !decide (meetsP f a b=meetsP f b a) then true else !(decide (Span.lo (gapR f a a)=0) && (decide (Span.hi (gapR f a a)=0) && true)))=true)=>y68) tv)))) (An (An (zr (iv (Span.lo (gapR f a b)))) (An (zr (iv (-1000))) (An (zr (iv (Span.hi (gapR f a b)))) tv))) (An (t28 (Span.lo (gapR f a b)) (-1000) (Span.hi (gapR f a b))) (Ak 2 (fun (i71:Env)=>tv)))))) (An (fun (y72:(!bif bif bif bif bif bif !decide (openF f (gapG f a b)=0) then true else !decide (openF f (gapG f b a)=0) then true else !decide (openF f (gapG f a a)=0) then true else !decide (openF f (gapG f a b)=0) then true else !decide (openF f (gapG f b a)=0) then true else !decide (meetsP f a b=meetsP f b a) then true else !(decide (Span.lo (gapR f a a)=0) && (decide (Span.hi (gapR f a a)=0) && true)))=true)=>(An (An (fun (y73:(!bif bif bif bif bif bif !decide (openF f (gapG f a b)=0) then true else !decide (openF f (gapG f b a)=0) then true else !decide (openF f (gapG f a a)=0) then true else !decide (openF f (gapG f a b)=0) then true else !decide (openF f (gapG f b a)=0) then true else !decide (meetsP f a b=meetsP f b a) then true else !(decide (Span.lo (gapR f a a)=0) && (decide (Span.hi (gapR f a a)=0) && true)))=true)=>y72) tv) tv)) (An (An (fun (y74:(bif bif bif bif bif bif !decide (openF f (gapG f a b)=0) then true else !decide (openF f (gapG f b a)=0) then true else !decide (openF f (gapG f a a)=0) then true else !decide (openF f (gapG f a b)=0) then true else !decide (openF f (gapG f b a)=0) then true else !decide (meetsP f a b=meetsP f b a) then true else !(decide (Span.lo (gapR f a a)=0) && (decide (Span.hi (gapR f a a)=0) && true)))=true)=>tv) (fun (y75:(bif bif bif bif bif bif !decide (openF f (gapG f a b)=0) then true else !decide (openF f (gapG f b a)=0) then true else !decide (openF f (gapG f a a)=0) then true else !decide (openF f (gapG f a b)=0) then true else !decide (openF f (gapG f b a)=0) then true else !decide (meetsP f a b=meetsP f b a) then true else !(decide (Span.lo (gapR f a a)=0) && (decide (Span.hi (gapR f a a)=0) && true)))=false)=>(o13 hpre y21 y75))) (Ak 1 (An (fun (y76:(!bif bif bif bif bif bif bif !decide (openF f (gapG f a b)=0) then true else !decide (openF f (gapG f b a)=0) then true else !decide (openF f (gapG f a a)=0) then true else !decide (openF f (gapG f a b)=0) then true else !decide (openF f (gapG f b a)=0) then true else !decide (meetsP f a b=meetsP f b a) then true else !(decide (Span.lo (gapR f a a)=0) && (decide (Span.hi (gapR f a a)=0) && true)) then true else !within (Span.lo (gapR f a b)) (-1000) (Span.hi (gapR f a b)))=true)=>(An (Ak 1 tv) tv)) (An (fun (y77:(!bif bif bif bif bif bif bif !decide (openF f (gapG f a b)=0) then true else !decide (openF f (gapG f b a)=0) then true else !decide (openF f (gapG f a a)=0) then true else !decide (openF f (gapG f a b)=0) then true else !decide (openF f (gapG f b a)=0) then true else !decide (meetsP f a b=meetsP f b a) then true else !(decide (Span.lo (gapR f a a)=0) && (decide (Span.hi (gapR f a a)=0) && true)) then true else !within (Span.lo (gapR f a b)) (-1000) (Span.hi (gapR f a b)))=true)=>(An (An (fun (y78:(!bif bif bif bif bif bif bif !decide (openF f (gapG f a b)=0) then true else !decide (openF f (gapG f b a)=0) then true else !decide (openF f (gapG f a a)=0) then true else !decide (openF f (gapG f a b)=0) then true else !decide (openF f (gapG f b a)=0) then true else !decide (meetsP f a b=meetsP f b a) then true else !(decide (Span.lo (gapR f a a)=0) && (decide (Span.hi (gapR f a a)=0) && true)) then true else !within (Span.lo (gapR f a b)) (-1000) (Span.hi (gapR f a b)))=true)=>y77) tv) tv)) (An (fun (y79:(!bif bif bif bif bif bif bif !decide (openF f (gapG f a b)=0) then true else !decide (openF f (gapG f b a)=0) then true else !decide (openF f (gapG f a a)=0) then true else !decide (openF f (gapG f a b)=0) then true else !decide (openF f (gapG f b a)=0) then true else !decide (meetsP f a b=meetsP f b a) then true else !(decide (Span.lo (gapR f a a)=0) && (decide (Span.hi (gapR f a a)=0) && true)) then true else !within (Span.lo (gapR f a b)) (-1000) (Span.hi (gapR f a b)))=true)=>(An (An (fun (y80:(!bif bif bif bif bif bif bif !decide (openF f (gapG f a b)=0) then true else !decide (openF f (gapG f b a)=0) then true else !decide (openF f (gapG f a a)=0) then true else !decide (openF f (gapG f a b)=0) then true else !decide (openF f (gapG f b a)=0) then true else !decide (meetsP f a b=meetsP f b a) then true else !(decide (Span.lo (gapR f a a)=0) && (decide (Span.hi (gapR f a a)=0) && true)) then true else !within (Span.lo (gapR f a b)) (-1000) (Span.hi (gapR f a b)))=true)=>y79) (Ak 1 tv)) tv)) (An (An (fun (y81:(bif bif bif bif bif bif bif !decide (openF f (gapG f a b)=0) then true else !decide (openF f (gapG f b a)=0) then true else !decide (openF f (gapG f a a)=0) then true else !decide (openF f (gapG f a b)=0) then true else !decide (openF f (gapG f b a)=0) then true else !decide (meetsP f a b=meetsP f b a) then true else !(decide (Span.lo (gapR f a a)=0) && (decide (Span.hi (gapR f a a)=0) && true)) then true else !within (Span.lo (gapR f a b)) (-1000) (Span.hi (gapR f a b)))=true)=>tv) (fun (y82:(bif bif bif bif bif bif bif !decide (openF f (gapG f a b)=0) then true else !decide (openF f (gapG f b a)=0) then true else !decide (openF f (gapG f a a)=0) then true else !decide (openF f (gapG f a b)=0) then true else !decide (openF f (gapG f b a)=0) then true else !decide (meetsP f a b=meetsP f b a) then true else !(decide (Span.lo (gapR f a a)=0) && (decide (Span.hi (gapR f a a)=0) && true)) then true else !within (Span.lo (gapR f a b)) (-1000) (Span.hi (gapR f a b)))=false)=>(o14 hpre y21 y82))) tv))))))))))))))))))))))))))))))))))))))) ?_
  refine zI (bif bif bif bif bif bif bif bif !decide (openF f (gapG f a b)=0) then true else !decide (openF f (gapG f b a)=0) then true else !decide (openF f (gapG f a a)=0) then true else !decide (openF f (gapG f a b)=0) then true else !decide (openF f (gapG f b a)=0) then true else !decide (meetsP f a b=meetsP f b a) then true else !(decide (Span.lo (gapR f a a)=0) && (decide (Span.hi (gapR f a a)=0) && true)) then true else !within (Span.lo (gapR f a b)) (-1000) (Span.hi (gapR f a b)) then true else decide (1000 < Span.hi (gapR f a b))) (fun y83 => ?_) (fun y83 => ?_)
  ·refine swp_seq ?_
   refine zR [6] [] (Ak 1 tv) ?_
   refine swp_ret ?_
   exact zT [] (An (Ak 1 tv) (An (An (cb (o15 hpre y21 y83)) (zr nilN)) (An (zr true) (An (zr true) (zr true)))))
  ·refine swp_skip ?_
   refine swp_seq ?_
   refine zC ([(36,CallSpec.eq s20 [])]) [6] [] (Ak 4 (An (o16 hpre y21 y83) (Ak 2 (An (fun (y84:decide (Span.lo (gapR f b a)=0 - Span.hi (gapR f a b))=true)=>(An (Ak 1 tv) tv)) (An (fun (y85:decide (Span.lo (gapR f b a)=0 - Span.hi (gapR f a b))=true)=>(An (An (fun (y86:decide (Span.lo (gapR f b a)=0 - Span.hi (gapR f a b))=true)=>y85) tv) tv)) (An (fun (y87:decide (Span.lo (gapR f b a)=0 - Span.hi (gapR f a b))=true)=>(An (Ak 1 tv) tv)) (An (fun (y88:decide (Span.lo (gapR f b a)=0 - Span.hi (gapR f a b))=true)=>(An (An (fun (y89:decide (Span.lo (gapR f b a)=0 - Span.hi (gapR f a b))=true)=>y88) tv) tv)) (An (fun (y90:decide (Span.lo (gapR f b a)=0 - Span.hi (gapR f a b))=true)=>(An (An (fun (y91:decide (Span.lo (gapR f b a)=0 - Span.hi (gapR f a b))=true)=>y90) tv) (o17 hpre y21 y83 y90))) (An (fun (y92:decide (Span.lo (gapR f b a)=0 - Span.hi (gapR f a b))=true)=>(An (An (fun (y93:decide (Span.lo (gapR f b a)=0 - Span.hi (gapR f a b))=true)=>y92) (An (fun (y94:decide (Span.lo (gapR f b a)=0 - Span.hi (gapR f a b))=true)=>y92) tv)) tv)) (An (An (fun (y95:decide (Span.lo (gapR f b a)=0 - Span.hi (gapR f a b))=true)=>y95) (fun (y96:decide (Span.lo (gapR f b a)=0 - Span.hi (gapR f a b))=false)=>tv)) (Ak 1 (An (fun (y97:(bif decide (Span.lo (gapR f b a)=0 - Span.hi (gapR f a b)) then decide (Span.hi (gapR f b a)=0 - Span.lo (gapR f a b)) else false)=true)=>(An (Ak 1 tv) tv)) (An (fun (y98:(bif decide (Span.lo (gapR f b a)=0 - Span.hi (gapR f a b)) then decide (Span.hi (gapR f b a)=0 - Span.lo (gapR f a b)) else false)=true)=>(An (An (fun (y99:(bif decide (Span.lo (gapR f b a)=0 - Span.hi (gapR f a b)) then decide (Span.hi (gapR f b a)=0 - Span.lo (gapR f a b)) else false)=true)=>y98) (Ak 1 tv)) tv)) (An (fun (y100:(bif decide (Span.lo (gapR f b a)=0 - Span.hi (gapR f a b)) then decide (Span.hi (gapR f b a)=0 - Span.lo (gapR f a b)) else false)=true)=>(An (Ak 1 tv) tv)) (An (fun (y101:(bif decide (Span.lo (gapR f b a)=0 - Span.hi (gapR f a b)) then decide (Span.hi (gapR f b a)=0 - Span.lo (gapR f a b)) else false)=true)=>(Ak 1 tv)) (An (fun (y102:(bif decide (Span.lo (gapR f b a)=0 - Span.hi (gapR f a b)) then decide (Span.hi (gapR f b a)=0 - Span.lo (gapR f a b)) else false)=true)=>(An (An (fun (y103:(bif decide (Span.lo (gapR f b a)=0 - Span.hi (gapR f a b)) then decide (Span.hi (gapR f b a)=0 - Span.lo (gapR f a b)) else false)=true)=>y102) (An (fun (y104:(bif decide (Span.lo (gapR f b a)=0 - Span.hi (gapR f a b)) then decide (Span.hi (gapR f b a)=0 - Span.lo (gapR f a b)) else false)=true)=>y102) tv)) tv)) (An (fun (y105:(bif decide (Span.lo (gapR f b a)=0 - Span.hi (gapR f a b)) then decide (Span.hi (gapR f b a)=0 - Span.lo (gapR f a b)) else false)=true)=>(An (An (fun (y106:(bif decide (Span.lo (gapR f b a)=0 - Span.hi (gapR f a b)) then decide (Span.hi (gapR f b a)=0 - Span.lo (gapR f a b)) else false)=true)=>y105) (An (fun (y107:(bif decide (Span.lo (gapR f b a)=0 - Span.hi (gapR f a b)) then decide (Span.hi (gapR f b a)=0 - Span.lo (gapR f a b)) else false)=true)=>y105) tv)) tv)) (An (An (fun (y108:(bif decide (Span.lo (gapR f b a)=0 - Span.hi (gapR f a b)) then decide (Span.hi (gapR f b a)=0 - Span.lo (gapR f a b)) else false)=true)=>y108) (fun (y109:(bif decide (Span.lo (gapR f b a)=0 - Span.hi (gapR f a b)) then decide (Span.hi (gapR f b a)=0 - Span.lo (gapR f a b)) else false)=false)=>tv)) (Ak 1 (An (fun (y110:(bif bif decide (Span.lo (gapR f b a)=0 - Span.hi (gapR f a b)) then decide (Span.hi (gapR f b a)=0 - Span.lo (gapR f a b)) else false then decide (meetsP f a b=1) == (decide (Span.lo (gapR f a b)=0) && (decide (Span.hi (gapR f a b)=0) && true)) else false)=true)=>(An (Ak 1 tv) tv)) (An (fun (y111:(bif bif decide (Span.lo (gapR f b a)=0 - Span.hi (gapR f a b)) then decide (Span.hi (gapR f b a)=0 - Span.lo (gapR f a b)) else false then decide (meetsP f a b=1) == (decide (Span.lo (gapR f a b)=0) && (decide (Span.hi (gapR f a b)=0) && true)) else false)=true)=>(An (An (fun (y112:(bif bif decide (Span.lo (gapR f b a)=0 - Span.hi (gapR f a b)) then decide (Span.hi (gapR f b a)=0 - Span.lo (gapR f a b)) else false then decide (meetsP f a b=1) == (decide (Span.lo (gapR f a b)=0) && (decide (Span.hi (gapR f a b)=0) && true)) else false)=true)=>y111) (Ak 1 tv)) tv)) (An (fun (y113:(bif bif decide (Span.lo (gapR f b a)=0 - Span.hi (gapR f a b)) then decide (Span.hi (gapR f b a)=0 - Span.lo (gapR f a b)) else false then decide (meetsP f a b=1) == (decide (Span.lo (gapR f a b)=0) && (decide (Span.hi (gapR f a b)=0) && true)) else false)=true)=>(An (Ak 1 tv) tv)) (An (fun (y114:(bif bif decide (Span.lo (gapR f b a)=0 - Span.hi (gapR f a b)) then decide (Span.hi (gapR f b a)=0 - Span.lo (gapR f a b)) else false then decide (meetsP f a b=1) == (decide (Span.lo (gapR f a b)=0) && (decide (Span.hi (gapR f a b)=0) && true)) else false)=true)=>(An (An (fun (y115:(bif bif decide (Span.lo (gapR f b a)=0 - Span.hi (gapR f a b)) then decide (Span.hi (gapR f b a)=0 - Span.lo (gapR f a b)) else false then decide (meetsP f a b=1) == (decide (Span.lo (gapR f a b)=0) && (decide (Span.hi (gapR f a b)=0) && true)) else false)=true)=>y114) tv) tv)) (An (fun (y116:(bif bif decide (Span.lo (gapR f b a)=0 - Span.hi (gapR f a b)) then decide (Span.hi (gapR f b a)=0 - Span.lo (gapR f a b)) else false then decide (meetsP f a b=1) == (decide (Span.lo (gapR f a b)=0) && (decide (Span.hi (gapR f a b)=0) && true)) else false)=true)=>(An (An (fun (y117:(bif bif decide (Span.lo (gapR f b a)=0 - Span.hi (gapR f a b)) then decide (Span.hi (gapR f b a)=0 - Span.lo (gapR f a b)) else false then decide (meetsP f a b=1) == (decide (Span.lo (gapR f a b)=0) && (decide (Span.hi (gapR f a b)=0) && true)) else false)=true)=>y116) (Ak 1 tv)) tv)) (An (fun (y118:(bif bif decide (Span.lo (gapR f b a)=0 - Span.hi (gapR f a b)) then decide (Span.hi (gapR f b a)=0 - Span.lo (gapR f a b)) else false then decide (meetsP f a b=1) == (decide (Span.lo (gapR f a b)=0) && (decide (Span.hi (gapR f a b)=0) && true)) else false)=true)=>(An (An (fun (y119:(bif bif decide (Span.lo (gapR f b a)=0 - Span.hi (gapR f a b)) then decide (Span.hi (gapR f b a)=0 - Span.lo (gapR f a b)) else false then decide (meetsP f a b=1) == (decide (Span.lo (gapR f a b)=0) && (decide (Span.hi (gapR f a b)=0) && true)) else false)=true)=>y118) tv) tv)) (An (fun (y120:((bif bif decide (Span.lo (gapR f b a)=0 - Span.hi (gapR f a b)) then decide (Span.hi (gapR f b a)=0 - Span.lo (gapR f a b)) else false then decide (meetsP f a b=1) == (decide (Span.lo (gapR f a b)=0) && (decide (Span.hi (gapR f a b)=0) && true)) else false) && !decide (0 < Span.lo (gapR f a b)))=true)=>(An (Ak 1 tv) tv)) (An (fun (y121:((bif bif decide (Span.lo (gapR f b a)=0 - Span.hi (gapR f a b)) then decide (Span.hi (gapR f b a)=0 - Span.lo (gapR f a b)) else false then decide (meetsP f a b=1) == (decide (Span.lo (gapR f a b)=0) && (decide (Span.hi (gapR f a b)=0) && true)) else false) && !decide (0 < Span.lo (gapR f a b)))=true)=>(An (An (fun (y122:((bif bif decide (Span.lo (gapR f b a)=0 - Span.hi (gapR f a b)) then decide (Span.hi (gapR f b a)=0 - Span.lo (gapR f a b)) else false then decide (meetsP f a b=1) == (decide (Span.lo (gapR f a b)=0) && (decide (Span.hi (gapR f a b)=0) && true)) else false) && !decide (0 < Span.lo (gapR f a b)))=true)=>y121) tv) tv)) (An (fun (y123:((bif bif decide (Span.lo (gapR f b a)=0 - Span.hi (gapR f a b)) then decide (Span.hi (gapR f b a)=0 - Span.lo (gapR f a b)) else false then decide (meetsP f a b=1) == (decide (Span.lo (gapR f a b)=0) && (decide (Span.hi (gapR f a b)=0) && true)) else false) && !decide (0 < Span.lo (gapR f a b)))=true)=>(An (An (fun (y124:((bif bif decide (Span.lo (gapR f b a)=0 - Span.hi (gapR f a b)) then decide (Span.hi (gapR f b a)=0 - Span.lo (gapR f a b)) else false then decide (meetsP f a b=1) == (decide (Span.lo (gapR f a b)=0) && (decide (Span.hi (gapR f a b)=0) && true)) else false) && !decide (0 < Span.lo (gapR f a b)))=true)=>y123) (Ak 1 tv)) tv)) (An (fun (y125:(bif bif decide (Span.lo (gapR f b a)=0 - Span.hi (gapR f a b)) then decide (Span.hi (gapR f b a)=0 - Span.lo (gapR f a b)) else false then decide (meetsP f a b=1) == (decide (Span.lo (gapR f a b)=0) && (decide (Span.hi (gapR f a b)=0) && true)) else false)=true)=>(An (An (fun (y126:(bif bif decide (Span.lo (gapR f b a)=0 - Span.hi (gapR f a b)) then decide (Span.hi (gapR f b a)=0 - Span.lo (gapR f a b)) else false then decide (meetsP f a b=1) == (decide (Span.lo (gapR f a b)=0) && (decide (Span.hi (gapR f a b)=0) && true)) else false)=true)=>y125) tv) (An (fun (y127:decide (0 < Span.lo (gapR f a b))=true)=>tv) (fun (y128:decide (0 < Span.lo (gapR f a b))=false)=>(o18 hpre y21 y83 y125 y128))))) (An (fun (y129:(bif bif decide (Span.lo (gapR f b a)=0 - Span.hi (gapR f a b)) then decide (Span.hi (gapR f b a)=0 - Span.lo (gapR f a b)) else false then decide (meetsP f a b=1) == (decide (Span.lo (gapR f a b)=0) && (decide (Span.hi (gapR f a b)=0) && true)) else false)=true)=>(An (An (fun (y130:(bif bif decide (Span.lo (gapR f b a)=0 - Span.hi (gapR f a b)) then decide (Span.hi (gapR f b a)=0 - Span.lo (gapR f a b)) else false then decide (meetsP f a b=1) == (decide (Span.lo (gapR f a b)=0) && (decide (Span.hi (gapR f a b)=0) && true)) else false)=true)=>y129) (An (fun (y131:(bif bif decide (Span.lo (gapR f b a)=0 - Span.hi (gapR f a b)) then decide (Span.hi (gapR f b a)=0 - Span.lo (gapR f a b)) else false then decide (meetsP f a b=1) == (decide (Span.lo (gapR f a b)=0) && (decide (Span.hi (gapR f a b)=0) && true)) else false)=true)=>y129) tv)) tv)) (An (An (fun (y132:(bif bif decide (Span.lo (gapR f b a)=0 - Span.hi (gapR f a b)) then decide (Span.hi (gapR f b a)=0 - Span.lo (gapR f a b)) else false then decide (meetsP f a b=1) == (decide (Span.lo (gapR f a b)=0) && (decide (Span.hi (gapR f a b)=0) && true)) else false)=true)=>y132) (fun (y133:(bif bif decide (Span.lo (gapR f b a)=0 - Span.hi (gapR f a b)) then decide (Span.hi (gapR f b a)=0 - Span.lo (gapR f a b)) else false then decide (meetsP f a b=1) == (decide (Span.lo (gapR f a b)=0) && (decide (Span.hi (gapR f a b)=0) && true)) else false)=false)=>tv)) (Ak 1 (An (fun (y134:(bif bif bif decide (Span.lo (gapR f b a)=0 - Span.hi (gapR f a b)) then decide (Span.hi (gapR f b a)=0 - Span.lo (gapR f a b)) else false then decide (meetsP f a b=1) == (decide (Span.lo (gapR f a b)=0) && (decide (Span.hi (gapR f a b)=0) && true)) else false then decide (meetsP f a b=2) == bif decide (0 < Span.lo (gapR f a b)) then true else decide (Span.hi (gapR f a b) < 0) else false)=true)=>(An (Ak 1 tv) (Ak 1 (An (t20) (Ak 2 (fun (i135:Env)=>tv)))))) (An (An (fun (y136:(bif bif bif decide (Span.lo (gapR f b a)=0 - Span.hi (gapR f a b)) then decide (Span.hi (gapR f b a)=0 - Span.lo (gapR f a b)) else false then decide (meetsP f a b=1) == (decide (Span.lo (gapR f a b)=0) && (decide (Span.hi (gapR f a b)=0) && true)) else false then decide (meetsP f a b=2) == bif decide (0 < Span.lo (gapR f a b)) then true else decide (Span.hi (gapR f a b) < 0) else false)=true)=>y136) (fun (y137:(bif bif bif decide (Span.lo (gapR f b a)=0 - Span.hi (gapR f a b)) then decide (Span.hi (gapR f b a)=0 - Span.lo (gapR f a b)) else false then decide (meetsP f a b=1) == (decide (Span.lo (gapR f a b)=0) && (decide (Span.hi (gapR f a b)=0) && true)) else false then decide (meetsP f a b=2) == bif decide (0 < Span.lo (gapR f a b)) then true else decide (Span.hi (gapR f a b) < 0) else false)=false)=>tv)) (Ak 1 tv))))))))))))))))))))))))))))))))))) ?_
   refine swp_ret ?_
   exact zT [] (An (Ak 1 tv) (An (An (cb (o19 hpre y21 y83)) (zr nilN)) (An (zr true) (An (zr true) (zr true)))))
theorem meets_one_b (s:Span):(decide (meetsV s=1) == (decide (s.lo=0) && (decide (s.hi=0) && true)))=true:=by
 have:decide (meetsV s=1)=(decide (s.lo=0) && (decide (s.hi=0) && true)):=by
  rw [Bool.eq_iff_iff]
  simp only [Bool.and_true,Bool.and_eq_true,decide_eq_true_eq]
  refine (meets_one s).trans ⟨fun e=>by rw [e]; exact ⟨rfl,rfl⟩,fun e => ?_⟩
  obtain ⟨lo,hi⟩:=s
  obtain ⟨e1,e2⟩:=e
  simp only at e1 e2
  rw [e1,e2]
 rw [this]; exact beq_self_eq_true _
theorem meets_two_b (s:Span):(decide (meetsV s=2) == bif decide (0 < s.lo) then true else decide (s.hi < 0))=true:=by
 have:decide (meetsV s=2)=(bif decide (0 < s.lo) then true else decide (s.hi < 0)):=by
  rw [Bool.eq_iff_iff]
  simp only [Bool.cond_true_left,Bool.or_eq_true,decide_eq_true_eq]
  refine (meets_two s).trans ⟨fun e=>by omega,fun e=>by omega⟩
 rw [this]; exact beq_self_eq_true _
theorem t13 (f:Frm) (a b:Int):Triple Try.prog 13 (s13 f a b):=by
 apply w13
 all_goals (intro hp)
 all_goals (first | ((repeat intro _); rename_i h; rw [h]; rfl) | skip)
 all_goals (intro h; obtain ⟨h1,h2,h3⟩:=nbor3x h; obtain ⟨g1,g2,g3⟩:=ready_ok h1)
 all_goals (try exact g3)
 all_goals (have hb:=gap_bound g2 a b; have eab:=gapR_ok g1 h2 h3; have eba:=gapR_ok g1 h3 h2; have eaa:=gapR_ok g1 h2 h2; have et:=gap_turn (f:=f) a b; have es:=gap_self (f:=f) a)
 all_goals (have mab:=meets_ok g1 h2 h3; have mba:=meets_ok g1 h3 h2; have mt:=meets_turn (gapP f a b); have m1:=meets_one (gapP f a b); have m2:=meets_two (gapP f a b))
 all_goals (rw [eab,eba,et] at *)
 all_goals (try rw [eaa,es])
 all_goals (try rw [mab,mba,et,mt])
 all_goals (try rw [open_gap g1 h2 h3,open_gap g1 h3 h2,open_gap g1 h2 h2])
 case o15 =>
  intro hh
  rw [Go.Sh.within_iff.2 (show -1000<=(gapP f a b).lo/\(gapP f a b).lo<=(gapP f a b).hi by omega),decide_eq_false (show ¬ 1000 < (gapP f a b).hi by omega),decide_eq_true (show meetsV (gapP f a b)=meetsV (gapP f a b) from rfl)] at hh
  exact hh.symm ▸ rfl
 case o16 | o17=>(repeat intro _); simp only [inI]; omega
 all_goals (have c1:decide ((Span.mk (-(gapP f a b).hi) (-(gapP f a b).lo)).lo=0 - (gapP f a b).hi)=true:=decide_eq_true (by show -_=_; omega))
 all_goals (have c2:decide ((Span.mk (-(gapP f a b).hi) (-(gapP f a b).lo)).hi=0 - (gapP f a b).lo)=true:=decide_eq_true (by show -_=_; omega))
 all_goals (have c3:=meets_one_b (gapP f a b); have c4:=meets_two_b (gapP f a b))
 case o18=>(repeat intro _); rename_i h4; rw [c1,c2,c3,h4]; rfl
 case o19=>(repeat intro _); rw [c1,c2,c3,c4]; rfl
end Go.Ab
namespace Go.Ab
open Go Go.RowKit
def Dec (P:Program) (t:TypeId) {α:Type} (c:α->List AV) (ok:α->Prop):Prop :=
 ∀ {H:Type} (enc:TypeId × Value->H) (w:World) (E:Env) (fuel:Nat) (cs:List Value) (d:DataW H) (ps:List MemPlace),
  (∀ b,E.M b=w.heap[b]?)->DataW.trod enc P w 0 (fun _=>true) true fuel t cs=some (d,ps)->(∀ n ∈ d.weights P t,n<=reachBytes) -> ∃ a,ok a /\ ∀ o,RelL E o (c a) cs
theorem mcell_of {E:Env} {w:World} (h:∀ b,E.M b=w.heap[b]?) {a:Addr} {v:Value} (hc:w.cell? a=some v):a.spot=none/\mcell E.M a.block a.off=some v:=by
 refine ⟨World.cell?_spot hc,?_⟩
 have hs:=World.cell?_spot hc
 unfold World.cell? at hc
 unfold mcell
 rw [h]
 split at hc
 ·rename_i c t fr e
  rw [hs] at hc
  rw [e]
  simpa using hc
 ·cases hc
theorem lit_wf {n:Int} (h:(Lit.int .i64 n).wf=true) : -9223372036854775808<=n/\n<=9223372036854775807:=by
 simpa [Lit.wf,IntKind.min,IntKind.max,IntKind.signed,IntKind.bits] using h
theorem dec_int {P:Program} {t:TypeId} (ht:P.underlying t=some (.int .i64)):Dec P t (fun n=>[iv n]) (fun n => -9223372036854775808<=n/\n<=9223372036854775807):=by
 intro H enc w E fuel cs d ps _ h _
 obtain ⟨n,rfl,_,hw⟩:=DataW.trod_int ht h
 exact ⟨n,lit_wf hw,fun o => .cons (.lit _) rfl .nil⟩
theorem weightsAll_mem {H:Type} {P:Program} {e:TypeId}:∀ {l:List (DataW H)} {d:DataW H},d ∈ l -> ∀ n ∈ d.weights P e,n ∈ DataW.weightsAll P e l:=by
 intro l
 induction l with
 | nil=>intro d h; cases h
 | cons x l ih =>
  intro d h n hn
  rw [DataW.weightsAll,List.mem_append]
  rcases List.mem_cons.1 h with rfl | h
  ·exact .inl hn
  ·exact .inr (ih h n hn)
theorem dec_slice {P:Program} {t e:TypeId} {α:Type} [Inhabited α] {c:α->List AV} {ok:α->Prop} (ht:P.underlying t=some (.slice e)) {sz:Nat} (hsz:P.cellsOf e=sz) (hpos:0 < sz) (hby:0 < P.bytesOf e) (he:Dec P e c ok) :
  Dec P t (fun l:List α=>[.sl sz l.length (fun i=>c (l.getD i default))]) (fun l=>l.length<=140737488355328 /\ ∀ a,a ∈ l->ok a):=by
 intro H enc w E fuel cs d ps hE h hw
 rcases Deep.open_slice ht h with ⟨rfl,hx⟩ | ⟨a,len,cap,m,n,D,Pl,rfl,hb,hl,hm,hmm,hx,hall⟩
 ·refine ⟨[],⟨Nat.zero_le _,fun a ha=>by cases ha⟩,fun o => ?_⟩
  exact .cons (.slN _ _) rfl .nil
 ·simp only [if_true] at hmm
  subst hmm
  rw [hsz] at hall
  obtain ⟨rfl,rfl⟩:=Prod.mk.inj hx
  have hwt:∀ i,i < len -> ∀ k ∈ (D i).weights P e,k<=reachBytes:=by
   intro i hi k hk
   refine hw k ?_
   rw [DataW.weights,ht]
   refine List.mem_cons_of_mem _ (List.mem_append_left _ (weightsAll_mem (d:=D i) ?_ k hk))
   exact List.mem_map.2 ⟨i,List.mem_range.2 hi,rfl⟩
  have hlen:len<=140737488355328:=by
   have h1:(((List.range len).map D).length + ((List.range (m - len)).map fun j=>D (len + j)).length) * P.bytesOf e<=reachBytes:=by
    refine hw _ ?_
    rw [DataW.weights,ht]
    exact List.mem_cons_self ..
   simp only [List.length_map,List.length_range] at h1
   have h2:len<=(len + (m - len)) * P.bytesOf e:=Nat.le_trans (Nat.le_add_right _ _) (Nat.le_mul_of_pos_right _ hby)
   have h3:=reachBytes_lt
   omega
  obtain ⟨g,hg⟩:=Deep.choose_lt (α:=List Value) (p:=fun i cs'=>w.cells? 0 (a.add (i * sz)) sz=some cs'/\DataW.trod enc P w 0 (fun _=>true) true n e cs'=some (D i,Pl i)) hall
  have hdec:∀ i,i < len -> ∃ x,ok x /\ ∀ o,RelL E o (c x) (g i):=fun i hi=>he enc w E n (g i) (D i) (Pl i) hE (hg i (by omega)).2 (hwt i hi)
  obtain ⟨A,hA⟩:=Deep.choose_lt (α:=α) (p:=fun i x=>ok x /\ ∀ o,RelL E o (c x) (g i)) hdec
  refine ⟨(List.range len).map A,⟨by simpa using hlen,fun x hx => ?_⟩,fun o => .cons ?_ rfl .nil⟩
  ·obtain ⟨i,hi,rfl⟩:=List.mem_map.1 hx
   exact (hA i (List.mem_range.1 hi)).1
  ·rw [List.length_map,List.length_range]
   have hcell:∀ i k,i < m->k < sz -> ∃ v,(g i)[k]? = some v/\w.cell? ((a.add (i * sz)).add k)=some v:=by
    intro i k hi hk
    obtain ⟨_,hl1,hl2⟩:=World.cells?_some (hg i hi).1
    have:=hl2 k hk
    obtain ⟨v,hv⟩:∃ v,(g i)[k]? = some v:=⟨_,List.getElem?_eq_getElem (by omega)⟩
    exact ⟨v,hv,by rw [this,hv]⟩
   by_cases h0:m=0
   ·subst h0
    obtain rfl:len=0:=by omega
    exact .slZ _ _ _
   ·obtain ⟨v,_,hv⟩:=hcell 0 0 (by omega) hpos
    have hsp:=(mcell_of hE hv).1
    obtain ⟨b,off,spot⟩:=a
    obtain rfl:spot=none:=by simpa [Addr.add] using hsp
    refine .slA sz len _ b off m g hl hm (fun i hi => ?_) (fun i k hi hk => ?_) (fun i hi => ?_)
    ·exact (World.cells?_some (hg i (by omega)).1).2.1
    ·obtain ⟨v,hv1,hv2⟩:=hcell i k (by omega) hk
     rw [hv1]
     have:=(mcell_of hE hv2).2
     rw [addr_add,addr_add] at this
     exact this
    ·have:((List.range len).map A).getD i default=A i:=by
      rw [List.getD_eq_getElem?_getD,List.getElem?_map,List.getElem?_range hi]; rfl
     rw [this]
     exact (hA i hi).2 false
def DecFs (P:Program) (off fin:Nat) (fs:List Field) {α:Type} (c:α->List AV) (ok:α->Prop):Prop :=
 ∀ {H:Type} (enc:TypeId × Value->H) (w:World) (E:Env) (n:Nat) (cs:List Value) (xs:List (DataW H × List MemPlace)),
  (∀ b,E.M b=w.heap[b]?)->cs.length=fin->xs.length=fs.length->(∀ (i:Nat) (f:Field),fs[i]? = some f->DataW.trod enc P w 0 (fun _=>true) true n f.type ((cs.drop f.offset).take (P.cellsOf f.type))=xs[i]?) →
  (∀ k ∈ DataW.weightsEach P (fs.map (·.type)) (xs.map (·.1)),k<=reachBytes) -> ∃ a,ok a /\ ∀ o,RelL E o (c a) (cs.drop off)
theorem decFs_nil {P:Program} {fin:Nat}:DecFs P fin fin [] (fun _:Unit=>[]) (fun _=>True):=by
 intro H enc w E n cs xs _ hl _ _ _
 refine ⟨(),trivial,fun o => ?_⟩
 rw [List.drop_of_length_le (by omega)]
 exact .nil
theorem decFs_cons {P:Program} {off mid fin:Nat} {f:Field} {fs:List Field} {α β:Type} {c1:α->List AV} {ok1:α->Prop} {c2:β->List AV} {ok2:β->Prop} {t:TypeId} (hft:f.type=t) (ho:f.offset=off) (hm:off + P.cellsOf t=mid)
  (h1:Dec P t c1 ok1) (h2:DecFs P mid fin fs c2 ok2):DecFs P off fin (f :: fs) (fun p:α × β=>c1 p.1 ++ c2 p.2) (fun p=>ok1 p.1/\ok2 p.2):=by
 intro H enc w E n cs xs hE hl hx hall hw
 subst hft; subst ho; subst hm
 cases xs with
 | nil=>simp at hx
 | cons x xs =>
  have h0:=hall 0 f rfl
  simp only [List.getElem?_cons_zero] at h0
  obtain ⟨a,ha,hra⟩:=h1 enc w E n _ x.1 x.2 hE h0 (fun k hk=>hw k (by
   simp only [List.map_cons,DataW.weightsEach]
   exact List.mem_append_left _ hk))
  obtain ⟨b,hb,hrb⟩:=h2 enc w E n cs xs hE hl (by simpa using hx) (fun i g hg=>by
   have:=hall (i + 1) g (by simpa using hg)
   simpa using this) (fun k hk=>hw k (by
   simp only [List.map_cons,DataW.weightsEach]
   exact List.mem_append_right _ hk))
  refine ⟨(a,b),⟨ha,hb⟩,fun o => ?_⟩
  have:=(hra o).append (hrb o)
  rw [← List.drop_drop,List.take_append_drop] at this
  exact this
theorem dec_struct {P:Program} {t:TypeId} {fs:Array Field} {sz:Nat} {α:Type} {c:α->List AV} {ok:α->Prop} (ht:P.underlying t=some (.struct fs)) (hsz:P.cellsOf t=sz) (h:DecFs P 0 sz fs.toList c ok):Dec P t c ok:=by
 intro H enc w E fuel cs d ps hE hd hw
 obtain ⟨xs,n,_,hx,hl,hxl,hall⟩:=DataW.trod_struct ht hd
 obtain ⟨rfl,rfl⟩:=Prod.mk.inj hx
 obtain ⟨a,ha,hr⟩:=h enc w E n cs xs hE (by omega) (by simpa using hxl) (fun i f hf=>hall i f (by simpa using hf)) (fun k hk=>hw k (by rw [DataW.weights,ht]; exact hk))
 exact ⟨a,ha,fun o=>by simpa using hr o⟩
theorem Dec.map {P:Program} {t:TypeId} {α β:Type} {c:α->List AV} {ok:α->Prop} {c':β->List AV} {ok':β->Prop} (h:Dec P t c ok) (g:α->β) (hc:∀ a,ok a->c' (g a)=c a) (hok:∀ a,ok a->ok' (g a)):Dec P t c' ok':=by
 intro H enc w E fuel cs d ps hE hd hw
 obtain ⟨a,ha,hr⟩:=h enc w E fuel cs d ps hE hd hw
 exact ⟨g a,hok a ha,fun o=>by rw [hc a ha]; exact hr o⟩
theorem Dec.arg {P:Program} {t:TypeId} {α:Type} {c:α->List AV} {ok:α->Prop} (h:Dec P t c ok) {H:Type} {enc:TypeId × Value->H} {w:World} {E:Env} (hE:∀ b,E.M b=w.heap[b]?) {v:Value} {d:DataW H} {ps:List MemPlace}
  (hd:DataW.Trod enc P w 0 (fun _=>true) true t v d ps) (hw:∀ n ∈ d.weights P t,n<=reachBytes):∃ a,ok a /\ ∀ o,RelL E o (c a) v.cells.toList:=by
 obtain ⟨fuel,hf⟩:=hd
 exact h enc w E fuel _ d ps hE hf hw
def envOf (w:World):Env:={ M:=fun b=>w.heap[b]?,blk:=fun _=>none,hdr:=fun _=>none,fns:=fun _ _=>False }
theorem heapOK_of (P:Program) (w:World):HeapOK (calleeCtx P (envOf w) w []) (envOf w) (Heap.of []) w where
 os:=rfl
 tape:=rfl
 output:=rfl
 size:=Nat.le_refl _
 pres:=fun _ _=>rfl
 mem:=fun _ _ h=>h
 le:=Env.le.refl _
 ext:=fun _ _ h => .inl h
 own:=fun id ob h=>by cases h
 sep:=fun i j k _ h=>absurd rfl h
theorem trodAll_below {H:Type} {enc:TypeId × Value->H} {P:Program} (hl:laidOutB P=true) {W W':World} (hb:Below W.heap.size W W'):∀ {ts:List TypeId} {vs:List Value} {ds:List (DataW H)} {ps:List MemPlace},
  (∀ t ∈ ts,P.readableRec t=true/\t < P.types.size)->DataW.TrodAll enc P W 0 (fun _=>true) true ts vs ds ps->(∀ x ∈ ps,x.block < W.heap.size) →
  DataW.TrodAll enc P W' 0 (fun b=>decide (b < W.heap.size)) true ts vs ds ps:=by
 intro ts
 induction ts with
 | nil =>
  intro vs ds ps _ h _
  obtain ⟨rfl,rfl,rfl⟩:=ChangeShapes.trodAll_nil h
  exact ChangeShapes.trodAll_mk0
 | cons t ts ih =>
  intro vs ds ps hr h hlt
  obtain ⟨v,vs',d,ds',p,q,rfl,rfl,rfl,hd,hrest⟩:=ChangeShapes.trodAll_cons h
  obtain ⟨h1,h2⟩:=hr t (List.mem_cons_self ..)
  exact ⟨p,q,Below.trod hl h1 h2 hd hb (fun x hx=>hlt x (List.mem_append_left _ hx)),ih (fun t ht=>hr t (List.mem_cons_of_mem _ ht)) hrest (fun x hx=>hlt x (List.mem_append_right _ hx)),rfl⟩
theorem law_contract {P:Program} (hl:laidOutB P=true) {f:FuncId} {fn:Func} {s:ChangeSpec} (hvars:s.vars = []) {tb:TypeId} (hres:fn.resultTypes = #[tb]) (htb:P.underlying tb=some .bool)
  (hread:∀ t ∈ fn.params.toList,P.readableRec t=true/\t < P.types.size)
  {H:Type} {enc:TypeId × Value->H} {W:World} {args:Array Value} {ds gs:List (DataW H)} {before:List MemPlace}
  (hfn:ds.length=fn.params.size->s.fn H ds = { results:=[.lit (.bool true)],args:=ds })
  (hW:DataW.Whole enc P fn.params.toList s.vars false W args.toList ds gs before) {sp:CallSpec} (ht:Triple P f sp) (hp:sp.pre) (hfo:∀ E,sp.fnok E) (hin:sp.hin = []) (hout:sp.hout = []) (hr:sp.res=bv true)
  (hla:args.toList.length=sp.args.length) (hra:∀ k,Rel (envOf W) true (sp.args.getD k .any) (args.toList.getD k undef)) :
  Calls P f args W fun e W' => ∃ v,e = .returned v/\s.post enc P fn false true false false W args v W':=by
 have hok:=heapOK_of P W
 have h:=ht.2 hp (envOf W) W args.toList (hfo _) (by rw [hin]; exact hok) hla hra
 refine (h (by rw [hout]; intro p hp; cases hp)).mono fun e W' hpost => ?_
 obtain ⟨v,E',he,hh,hv,_⟩:=hpost
 rw [hr] at hv
 have hvt:v = .bool true:=by cases hv; rfl
 subst hvt
 have hb:Below W.heap.size W W':=⟨hh.os,hh.tape,hh.output,hh.size,fun k hk=>hh.pres k (by
  rintro (hc | ⟨q,hq,_⟩)
  ·exact absurd hk (Nat.not_lt.2 hc)
  ·rw [hin] at hq; cases hq)⟩
 refine ⟨_,he,?_⟩
 have hW':=hW
 obtain ⟨p,q,hA,hV,rfl,hz,hnd⟩:=hW
 rw [hvars] at hV
 obtain ⟨rfl,rfl⟩:=ChangeShapes.trodVars_none hV
 have hlen:ds.length=fn.params.size:=by
  have:∀ {ts:List TypeId} {vs:List Value} {ds:List (DataW H)} {ps:List MemPlace},DataW.TrodAll enc P W 0 (fun _=>true) true ts vs ds ps->ds.length=ts.length:=by
   intro ts
   induction ts with
   | nil=>intro vs ds ps h; obtain ⟨_,rfl,_⟩:=ChangeShapes.trodAll_nil h; rfl
   | cons t ts ih=>intro vs ds ps h; obtain ⟨_,_,_,_,_,_,rfl,rfl,rfl,_,hr⟩:=ChangeShapes.trodAll_cons h; simp [ih hr]
  simpa using this hA
 refine ⟨ds,[],p ++ [],[],p,[],hW',?_,?_,?_,hb.frame _,fun h=>by cases h⟩
 ·rw [List.append_nil,hfn hlen,hres]
  exact ChangeShapes.trodAll_mk1 (shut_bool htb true)
 ·rw [List.append_nil,hfn hlen]
  exact trodAll_below hl hb hread hA (fun x hx=>hW'.lt x (List.mem_append_left _ hx))
 ·rw [List.append_nil,hfn hlen,hvars]
  rfl
end Go.Ab
namespace Go.Ab
open Go Go.RowKit Go.Proofs Go.Sh Go.En
theorem dInt:Dec Try.prog 3 (fun n=>[iv n]) (fun n => -9223372036854775808<=n/\n<=9223372036854775807):=dec_int Try.underlying3
theorem dInts:Dec Try.prog 27 (fun l:List Int=>[aInts l]) (fun l=>l.length<=140737488355328) :=
 Dec.map (dec_slice (α:=Int) Try.underlying27 (by kernel_rfl) (by decide) (Nat.lt_of_lt_of_eq (by decide:0 < 8) (by kernel_rfl)) dInt) id (fun _ _=>rfl) (fun _ h=>h.1)
set_option maxRecDepth 100000
theorem laidOut:laidOutB Try.prog=true:=by kernel_rfl
section
variable {H:Type} {enc:TypeId × Value->H} {W:World} {base:Nat} {v:Value} {d:DataW H} {ps:List MemPlace}
theorem arg_struct {t:TypeId} {fs:Array Field} {α:Type} {c:α->List AV} {ok:α->Prop} (ht:Try.prog.underlying t=some (.struct fs)) (hD:Dec Try.prog t c ok) (hval:Value.okWide Try.prog W .any base t v) (hd:DataW.Trod enc Try.prog W 0 (fun _=>true) true t v d ps) (hw:∀ n ∈ d.weights Try.prog t,n<=reachBytes) :
  ∃ a,ok a/\Rel (envOf W) true (.agg (c a)) v:=by
 unfold Value.okWide at hval
 rw [ht] at hval
 obtain ⟨cs,rfl,_⟩:=hval
 obtain ⟨a,ha,hr⟩:=hD.arg (E:=envOf W) (fun _=>rfl) hd hw
 refine ⟨a,ha,?_⟩
 have h:=Rel.agg (hr true)
 simpa [Value.cells] using h
theorem arg_int (hval:Value.okWide Try.prog W .any base 3 v) (hd:DataW.Trod enc Try.prog W 0 (fun _=>true) true 3 v d ps):∃ n:Int,(-9223372036854775808<=n/\n<=9223372036854775807)/\Rel (envOf W) true (iv n) v:=by
 obtain ⟨n,rfl,_,_,hw⟩:=ChangeShapes.open_int Try.underlying3 hval hd
 exact ⟨n,lit_wf hw,.lit _⟩
end
theorem weights_part {H:Type} {ts:List TypeId} {ds:List (DataW H)} (h:(DataW.weightsEach Try.prog ts ds).all (· <= reachBytes)=true) {j:Nat} {t:TypeId} {d:DataW H} (ht:ts[j]? = some t) (hd:ds[j]? = some d):∀ n ∈ d.weights Try.prog t,n<=reachBytes:=by
 intro n hn
 have:=List.all_eq_true.1 h _ (DataW.weights_mem_each ht hd n hn)
 simpa using this
def ArgD (t:TypeId) (α:Type) (c:α->AV) (ok:α->Prop):Prop :=
 (Try.prog.readableRec t=true/\t < Try.prog.types.size) /\ ∀ {H:Type} {enc:TypeId × Value->H} {W:World} {base:Nat} {v:Value} {d:DataW H} {ps:List MemPlace},Value.okWide Try.prog W .any base t v->DataW.Trod enc Try.prog W 0 (fun _=>true) true t v d ps->(∀ n ∈ d.weights Try.prog t,n<=reachBytes) -> ∃ a,ok a/\Rel (envOf W) true (c a) v
abbrev i64 (n:Int):Prop := -9223372036854775808<=n/\n<=9223372036854775807
theorem argInt:ArgD 3 Int iv i64:=⟨⟨by kernel_rfl,of_decide_eq_true (by kernel_rfl)⟩,fun hv hd _=>arg_int hv hd⟩
theorem argStruct {t:TypeId} {fs:Array Field} {α:Type} {c:α->List AV} {ok:α->Prop} (ht:Try.prog.underlying t=some (.struct fs)) (hr:Try.prog.readableRec t=true/\t < Try.prog.types.size) (hD:Dec Try.prog t c ok):ArgD t α (fun a => .agg (c a)) ok:=⟨hr,fun hv hd hw=>arg_struct ht hD hv hd hw⟩
theorem law_three {f:FuncId} {fn:Func} {s:ChangeSpec} {t1 t2 t3:TypeId} {α β γ:Type} {c1:α->AV} {c2:β->AV} {c3:γ->AV} {ok1:α->Prop} {ok2:β->Prop} {ok3:γ->Prop} (h1:ArgD t1 α c1 ok1) (h2:ArgD t2 β c2 ok2) (h3:ArgD t3 γ c3 ok3)
  (hps:fn.params = #[t1,t2,t3]) (hres:fn.resultTypes = #[4]) (hvars:s.vars = []) (hfn:∀ (H:Type) (d1 d2 d3:DataW H),s.fn H [d1,d2,d3] = { results:=[.lit (.bool true)],args:=[d1,d2,d3] })
  (sp:α->β->γ->CallSpec) (ht:∀ r a b,Triple Try.prog f (sp r a b)) (hargs:∀ r a b,(sp r a b).args = [c1 r,c2 a,c3 b]) (hpre:∀ r a b,ok1 r->ok2 a->ok3 b->(sp r a b).pre)
  (hfo:∀ r a b E,(sp r a b).fnok E) (hin:∀ r a b,(sp r a b).hin = []) (hout:∀ r a b,(sp r a b).hout = []) (hr:∀ r a b,(sp r a b).res=bv true)
  {H:Type} {enc:TypeId × Value->H} {W:World} {base:Nat} {args:Array Value} {ds gs:List (DataW H)} {before:List MemPlace}
  (hval:∀ (j:Nat) t v,fn.params[j]? = some t->args[j]? = some v->Value.okWide Try.prog W .any base t v) (hW:DataW.Whole enc Try.prog fn.params.toList s.vars false W args.toList ds gs before)
  (hsz:(DataW.weightsEach Try.prog (fn.params.toList ++ s.plain.varTypes Try.prog) (ds ++ gs)).all (· <= reachBytes)=true) :
  Calls Try.prog f args W fun e W' => ∃ v,e = .returned v/\s.post enc Try.prog fn false true false false W args v W':=by
 have hW':=hW
 obtain ⟨p,q,hA,_,_,_,_⟩:=hW
 rw [hps] at hA hval hsz
 obtain ⟨v0,v1,v2,d0,d1,d2,p0,p1,p2,rfl,rfl,rfl,g0,g1,g2⟩:=ChangeShapes.trodAll_three hA
 obtain ⟨r,hr0,r0⟩:=h1.2 (hval 0 t1 v0 rfl rfl) g0 (weights_part hsz (j:=0) rfl rfl)
 obtain ⟨a,ha,r1⟩:=h2.2 (hval 1 t2 v1 rfl rfl) g1 (weights_part hsz (j:=1) rfl rfl)
 obtain ⟨b,hb,r2⟩:=h3.2 (hval 2 t3 v2 rfl rfl) g2 (weights_part hsz (j:=2) rfl rfl)
 refine law_contract laidOut hvars hres Try.underlying4 (fun t htt => ?_) (fun _=>hfn H d0 d1 d2) hW' (ht r a b) (hpre r a b hr0 ha hb) (hfo r a b) (hin r a b) (hout r a b) (hr r a b) (by rw [hargs]; rfl) (fun k => ?_)
 ·rw [hps] at htt
  have:t=t1 ∨ t=t2 ∨ t=t3:=by simpa using htt
  rcases this with rfl | rfl | rfl
  ·exact h1.1
  ·exact h2.1
  ·exact h3.1
 ·rw [hargs]
  rcases k with _ | _ | _ | k
  ·exact r0
  ·exact r1
  ·exact r2
  ·exact .any _
end Go.Ab
namespace Go.Ab
open Go Go.RowKit Go.Proofs Go.Sh Go.En
set_option maxRecDepth 100000
theorem dSpan:Dec Try.prog 36 cSpan (fun _=>True) :=
 Dec.map (dec_struct Try.underlying36 (sz:=2) (by kernel_rfl) (decFs_cons (mid:=1) rfl rfl (by kernel_rfl) dInt (decFs_cons (mid:=2) rfl rfl (by kernel_rfl) dInt decFs_nil))) (fun p=>(⟨p.1,p.2.1⟩:Span)) (fun _ _=>rfl) (fun _ _=>trivial)
theorem dStrip:Dec Try.prog 65 cStrip (fun _=>True) :=
 Dec.map (dec_struct Try.underlying65 (sz:=2) (by kernel_rfl) (decFs_cons (mid:=1) rfl rfl (by kernel_rfl) dInt (decFs_cons (mid:=2) rfl rfl (by kernel_rfl) dInt decFs_nil))) (fun p=>(⟨p.1,p.2.1⟩:Strip)) (fun _ _=>rfl) (fun _ _=>trivial)
theorem dPiece:Dec Try.prog 46 cPiece (fun _=>True) :=
 Dec.map (dec_struct Try.underlying46 (sz:=3) (by kernel_rfl) (decFs_cons (mid:=2) rfl rfl (by kernel_rfl) dSpan (decFs_cons (mid:=3) rfl rfl (by kernel_rfl) dInt decFs_nil))) (fun p=>(⟨p.1.lo,p.1.hi,p.2.1⟩:Piece)) (fun _ _=>rfl) (fun _ _=>trivial)
theorem dStrips:Dec Try.prog 22 (fun l:List Strip=>[.sl 2 l.length (fun i=>cStrip (l.getD i default))]) (fun l=>l.length<=140737488355328 /\ ∀ m,m ∈ l->True) :=
 dec_slice (α:=Strip) Try.underlying22 (by kernel_rfl) (by decide) (Nat.lt_of_lt_of_eq (by decide:0 < 16) (by kernel_rfl)) dStrip
theorem dPieces:Dec Try.prog 23 (fun l:List Piece=>[.sl 3 l.length (fun i=>cPiece (l.getD i default))]) (fun l=>l.length<=140737488355328 /\ ∀ m,m ∈ l->True) :=
 dec_slice (α:=Piece) Try.underlying23 (by kernel_rfl) (by decide) (Nat.lt_of_lt_of_eq (by decide:0 < 24) (by kernel_rfl)) dPiece
theorem dIntss:Dec Try.prog 24 (fun l:List (List Int)=>[aIntss l]) (fun l=>l.length<=140737488355328 /\ ∀ m,m ∈ l->m.length<=140737488355328) :=
 dec_slice (α:=List Int) Try.underlying24 (by kernel_rfl) (by decide) (Nat.lt_of_lt_of_eq (by decide:0 < 24) (by kernel_rfl)) dInts
theorem dFrm:Dec Try.prog 26 cFrm fitsF:=by
 refine Dec.map (dec_struct Try.underlying26 (sz:=5) (by kernel_rfl) (decFs_cons (mid:=1) rfl rfl (by kernel_rfl) dInt (decFs_cons (mid:=2) rfl rfl (by kernel_rfl) dInt (decFs_cons (mid:=3) rfl rfl (by kernel_rfl) dStrips (decFs_cons (mid:=4) rfl rfl (by kernel_rfl) dPieces (decFs_cons (mid:=5) rfl rfl (by kernel_rfl) dIntss decFs_nil)))))) (fun p=>(⟨p.1,p.2.1,p.2.2.1,p.2.2.2.1,p.2.2.2.2.1⟩:Frm)) (fun _ _=>rfl) (fun p h => ?_)
 obtain ⟨_,_,⟨h1,_⟩,⟨h2,_⟩,⟨h3,h4⟩,_⟩:=h
 refine ⟨Nat.le_trans h1 (by decide),Nat.le_trans h2 (by decide),Nat.le_trans h3 (by decide),fun i => ?_⟩
 show (p.2.2.2.2.1.getD i []).length<=_
 by_cases hi:i < p.2.2.2.2.1.length
 ·exact Nat.le_trans (h4 _ (getD_mem _ [] hi)) (by decide)
 ·rw [getD_ge _ _ (by omega)]; exact Nat.zero_le _
theorem argFrm:ArgD 26 Frm (fun f=>vFrm f) fitsF:=argStruct Try.underlying26 ⟨by kernel_rfl,of_decide_eq_true (by kernel_rfl)⟩ dFrm
end Go.Ab
namespace Go.Proofs.Ytpnmalddfpjcoaa
open Go Go.Ab Go.Sh Go.En Go.RowKit
set_option maxRecDepth 100000
theorem own:ownKnob Try.prog.godebug=none:=by kernel_rfl
def nilArgs:Array Value := #[.agg #[.int .i64 0,.int .i64 0,.slice none 0 0,.slice none 0 0,.slice none 0 0],.int .i64 0,.int .i64 0]
theorem lifted (os:Os) (started:os.Started) (H:Type) (enc:TypeId × Value->H) :
  ReturnsInHanded {} Try.checked os 13 .any (Rows.pagesTopsSpec.pre6 enc Try.prog Try.f13 Rows.pagesTopsRow.domain false) (Rows.pagesTopsSpec.post enc Try.prog Try.f13 false true false false):=by
 refine returnsInHanded_of_change_sized (C:=Try.checked) own started (by kernel_rfl) Try.func13
  (ChangeSpec.witness6 (enc:=enc) (C:=Try.checked) false ⟨#[],nilArgs,[]⟩ 8 (by kernel_rfl) (by kernel_rfl) (by kernel_rfl) (by kernel_rfl)) ?_
 intro W base args ds gs before hval hW _ hsz _
 exact law_three argFrm argInt argInt rfl rfl rfl (fun _ _ _ _=>rfl) s13 t13 (fun _ _ _=>rfl) (fun _ _ _ h0 h1 h2=>h0) (fun _ _ _ _=>trivial) (fun _ _ _=>rfl) (fun _ _ _=>rfl) (fun _ _ _=>rfl) hval hW hsz
theorem proved:Rows.PagesTopsSaid :=
 OpenClaim.holds_of_wide 13 Try.f13 rfl rfl rfl rfl rfl rfl rfl ⟨rfl,rfl,rfl,rfl,rfl⟩ rfl rfl rfl rfl rfl (by kernel_rfl) Try.func13 (by kernel_rfl)
  (of_decide_eq_true (by kernel_rfl)) (by unfold Func.isWrapper; first | (rw [if_pos (by decide +kernel)]; kernel_rfl) | (rw [if_neg (by decide +kernel)]; exact ⟨rfl,rfl⟩))
  (fun os started H enc _=>lifted os started H enc)
end Go.Proofs.Ytpnmalddfpjcoaa
