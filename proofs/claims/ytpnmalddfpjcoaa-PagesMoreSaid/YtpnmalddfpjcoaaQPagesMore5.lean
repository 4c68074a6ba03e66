/- PagesMore returns true for every input, and leaves what it was handed as it was. No condition. -/
import Derived.Test.YtpnmalddfpjcoaaQPagesMore4
import Derived.Deep.Slices
import Derived.ChangeShapes
import Derived.Carry
import Derived.OpenShut
import Derived.SizedLaws
import Derived.Test.YtpnmalddfpjcoaaRows
import Derived.ProofKit
import Derived.JoinedOf
set_option linter.all false
set_option linter.deprecated false
namespace Go.Ab
open Go Go.RowKit Go.Proofs Go.Sh Go.En
theorem w26 (f:Frm) (p:Int)
  (o0:smallF f->fitsF f)
  (o1:smallF f->(!decide (openF f (isPc f p)=0))=true->0=growN f p)
  (o2:smallF f->(!decide (openF f (isPc f p)=0))=true->openF f (isPc f p)=growE f p)
  (o3:smallF f->(!decide (openF f (isPc f p)=0))=false -> ∀ (i3:Nat),i3 < List.length (Frm.pieces (openFr f (isPc f p)))->cPiece (pc (openFr f (isPc f p)) i3)=cPiece (List.getD (Frm.pieces (openFr f (isPc f p))) i3 default))
  (o4:smallF f->(!decide (openF f (isPc f p)=0))=false->0 < List.length (Frm.pieces (openFr f (isPc f p))))
  (o5:smallF f->(!decide (openF f (isPc f p)=0))=false->List.length (Frm.pieces (openFr f (isPc f p)))<=60000)
  (o6:smallF f->(!decide (openF f (isPc f p)=0))=false->0<=p)
  (o7:smallF f->(!decide (openF f (isPc f p)=0))=false->p < (↑(List.length (Frm.pieces (openFr f (isPc f p)))):Int))
  (o8:smallF f->(!decide (openF f (isPc f p)=0))=false->Int.toNat p < List.length (Frm.pieces (openFr f (isPc f p))))
  (o9:smallF f->(!decide (openF f (isPc f p)=0))=false -> ∀ (i11:Nat),i11 < List.length (Frm.pieces (openFr f (isPc f p)))->Decidable.rec (fun (h:¬i11=Int.toNat p)=>cPiece (List.getD (Frm.pieces (openFr f (isPc f p))) i11 default)) (fun (h:i11=Int.toNat p)=>[] ++ ([iv (Piece.lo (List.getD (Frm.pieces (openFr f (isPc f p))) (Int.toNat p) default))] ++ ([iv 99] ++ [iv (Piece.pence (List.getD (Frm.pieces (openFr f (isPc f p))) (Int.toNat p) default))]))) (instDecidableEqNat i11 (Int.toNat p))=cPiece (pc (grownF (openFr f (isPc f p)) (Int.toNat p) (99 - (↑0:Int))) i11))
  (o10:smallF f->(!decide (openF f (isPc f p)=0))=false->0<=100 - Int.toNat (Piece.lo (pc (openFr f (isPc f p)) (Int.toNat p))) /\ ∀ (j:Nat),j < 0->Option.isSome (wholeP (grownF (openFr f (isPc f p)) (Int.toNat p) (99 - (↑j:Int))) 0)=false)
  (o11:smallF f->(!decide (openF f (isPc f p)=0))=false -> ∀ (x6:Nat),(x6<=100 - Int.toNat (Piece.lo (pc (openFr f (isPc f p)) (Int.toNat p))) /\ ∀ (j:Nat),j < x6->Option.isSome (wholeP (grownF (openFr f (isPc f p)) (Int.toNat p) (99 - (↑j:Int))) 0)=false)->Int.toNat p < List.length (Frm.pieces (openFr f (isPc f p))))
  (o12:smallF f->(!decide (openF f (isPc f p)=0))=false -> ∀ (x6:Nat),(x6<=100 - Int.toNat (Piece.lo (pc (openFr f (isPc f p)) (Int.toNat p))) /\ ∀ (j:Nat),j < x6->Option.isSome (wholeP (grownF (openFr f (isPc f p)) (Int.toNat p) (99 - (↑j:Int))) 0)=false)->Int.toNat p < List.length (Frm.pieces (openFr f (isPc f p))))
  (o13:smallF f->(!decide (openF f (isPc f p)=0))=false -> ∀ (x6:Nat),(x6<=100 - Int.toNat (Piece.lo (pc (openFr f (isPc f p)) (Int.toNat p))) /\ ∀ (j:Nat),j < x6->Option.isSome (wholeP (grownF (openFr f (isPc f p)) (Int.toNat p) (99 - (↑j:Int))) 0)=false)->decide (Piece.lo (pc (grownF (openFr f (isPc f p)) (Int.toNat p) (99 - (↑x6:Int))) (Int.toNat p))<=Piece.hi (pc (grownF (openFr f (isPc f p)) (Int.toNat p) (99 - (↑x6:Int))) (Int.toNat p)))=true->Frm.length (openFr f (isPc f p))=Frm.length (grownF (openFr f (isPc f p)) (Int.toNat p) (99 - (↑x6:Int))))
  (o14:smallF f->(!decide (openF f (isPc f p)=0))=false -> ∀ (x6:Nat),(x6<=100 - Int.toNat (Piece.lo (pc (openFr f (isPc f p)) (Int.toNat p))) /\ ∀ (j:Nat),j < x6->Option.isSome (wholeP (grownF (openFr f (isPc f p)) (Int.toNat p) (99 - (↑j:Int))) 0)=false)->decide (Piece.lo (pc (grownF (openFr f (isPc f p)) (Int.toNat p) (99 - (↑x6:Int))) (Int.toNat p))<=Piece.hi (pc (grownF (openFr f (isPc f p)) (Int.toNat p) (99 - (↑x6:Int))) (Int.toNat p)))=true->Frm.slack (openFr f (isPc f p))=Frm.slack (grownF (openFr f (isPc f p)) (Int.toNat p) (99 - (↑x6:Int))))
  (o15:smallF f->(!decide (openF f (isPc f p)=0))=false -> ∀ (x6:Nat),(x6<=100 - Int.toNat (Piece.lo (pc (openFr f (isPc f p)) (Int.toNat p))) /\ ∀ (j:Nat),j < x6->Option.isSome (wholeP (grownF (openFr f (isPc f p)) (Int.toNat p) (99 - (↑j:Int))) 0)=false)->decide (Piece.lo (pc (grownF (openFr f (isPc f p)) (Int.toNat p) (99 - (↑x6:Int))) (Int.toNat p))<=Piece.hi (pc (grownF (openFr f (isPc f p)) (Int.toNat p) (99 - (↑x6:Int))) (Int.toNat p)))=true->List.length (Frm.strips (openFr f (isPc f p)))=List.length (Frm.strips (grownF (openFr f (isPc f p)) (Int.toNat p) (99 - (↑x6:Int)))))
  (o16:smallF f->(!decide (openF f (isPc f p)=0))=false -> ∀ (x6:Nat),(x6<=100 - Int.toNat (Piece.lo (pc (openFr f (isPc f p)) (Int.toNat p))) /\ ∀ (j:Nat),j < x6->Option.isSome (wholeP (grownF (openFr f (isPc f p)) (Int.toNat p) (99 - (↑j:Int))) 0)=false)->decide (Piece.lo (pc (grownF (openFr f (isPc f p)) (Int.toNat p) (99 - (↑x6:Int))) (Int.toNat p))<=Piece.hi (pc (grownF (openFr f (isPc f p)) (Int.toNat p) (99 - (↑x6:Int))) (Int.toNat p)))=true -> ∀ (i14:Nat),i14 < List.length (Frm.strips (grownF (openFr f (isPc f p)) (Int.toNat p) (99 - (↑x6:Int))))->cStrip (stp (openFr f (isPc f p)) i14)=cStrip (stp (grownF (openFr f (isPc f p)) (Int.toNat p) (99 - (↑x6:Int))) i14))
  (o17:smallF f->(!decide (openF f (isPc f p)=0))=false -> ∀ (x6:Nat),(x6<=100 - Int.toNat (Piece.lo (pc (openFr f (isPc f p)) (Int.toNat p))) /\ ∀ (j:Nat),j < x6->Option.isSome (wholeP (grownF (openFr f (isPc f p)) (Int.toNat p) (99 - (↑j:Int))) 0)=false)->decide (Piece.lo (pc (grownF (openFr f (isPc f p)) (Int.toNat p) (99 - (↑x6:Int))) (Int.toNat p))<=Piece.hi (pc (grownF (openFr f (isPc f p)) (Int.toNat p) (99 - (↑x6:Int))) (Int.toNat p)))=true->List.length (Frm.columns (openFr f (isPc f p)))=List.length (Frm.columns (grownF (openFr f (isPc f p)) (Int.toNat p) (99 - (↑x6:Int)))))
  (o18:smallF f->(!decide (openF f (isPc f p)=0))=false -> ∀ (x6:Nat),(x6<=100 - Int.toNat (Piece.lo (pc (openFr f (isPc f p)) (Int.toNat p))) /\ ∀ (j:Nat),j < x6->Option.isSome (wholeP (grownF (openFr f (isPc f p)) (Int.toNat p) (99 - (↑j:Int))) 0)=false)->decide (Piece.lo (pc (grownF (openFr f (isPc f p)) (Int.toNat p) (99 - (↑x6:Int))) (Int.toNat p))<=Piece.hi (pc (grownF (openFr f (isPc f p)) (Int.toNat p) (99 - (↑x6:Int))) (Int.toNat p)))=true -> ∀ (i16:Nat),i16 < List.length (Frm.columns (grownF (openFr f (isPc f p)) (Int.toNat p) (99 - (↑x6:Int)))) -> [aInts (col (openFr f (isPc f p)) i16)] = [aInts (col (grownF (openFr f (isPc f p)) (Int.toNat p) (99 - (↑x6:Int))) i16)])
  (o19:smallF f->(!decide (openF f (isPc f p)=0))=false -> ∀ (x6:Nat),(x6<=100 - Int.toNat (Piece.lo (pc (openFr f (isPc f p)) (Int.toNat p))) /\ ∀ (j:Nat),j < x6->Option.isSome (wholeP (grownF (openFr f (isPc f p)) (Int.toNat p) (99 - (↑j:Int))) 0)=false)->decide (Piece.lo (pc (grownF (openFr f (isPc f p)) (Int.toNat p) (99 - (↑x6:Int))) (Int.toNat p))<=Piece.hi (pc (grownF (openFr f (isPc f p)) (Int.toNat p) (99 - (↑x6:Int))) (Int.toNat p)))=true->Sound (grownF (openFr f (isPc f p)) (Int.toNat p) (99 - (↑x6:Int))))
  (o20:smallF f->(!decide (openF f (isPc f p)=0))=false -> ∀ (x6:Nat),(x6<=100 - Int.toNat (Piece.lo (pc (openFr f (isPc f p)) (Int.toNat p))) /\ ∀ (j:Nat),j < x6->Option.isSome (wholeP (grownF (openFr f (isPc f p)) (Int.toNat p) (99 - (↑j:Int))) 0)=false)->decide (Piece.lo (pc (grownF (openFr f (isPc f p)) (Int.toNat p) (99 - (↑x6:Int))) (Int.toNat p))<=Piece.hi (pc (grownF (openFr f (isPc f p)) (Int.toNat p) (99 - (↑x6:Int))) (Int.toNat p)))=true->some (OB.vec 46 3 (List.length (Frm.pieces (openFr f (isPc f p)))) fun (i:Nat)=>cPiece (pc (grownF (openFr f (isPc f p)) (Int.toNat p) (99 - (↑x6:Int))) i))=some (OB.vec 46 3 (List.length (Frm.pieces (grownF (openFr f (isPc f p)) (Int.toNat p) (99 - (↑x6:Int))))) fun (i:Nat)=>cPiece (pc (grownF (openFr f (isPc f p)) (Int.toNat p) (99 - (↑x6:Int))) i)))
  (o21:smallF f->(!decide (openF f (isPc f p)=0))=false -> ∀ (x6:Nat),(x6<=100 - Int.toNat (Piece.lo (pc (openFr f (isPc f p)) (Int.toNat p))) /\ ∀ (j:Nat),j < x6->Option.isSome (wholeP (grownF (openFr f (isPc f p)) (Int.toNat p) (99 - (↑j:Int))) 0)=false)->decide (Piece.lo (pc (grownF (openFr f (isPc f p)) (Int.toNat p) (99 - (↑x6:Int))) (Int.toNat p))<=Piece.hi (pc (grownF (openFr f (isPc f p)) (Int.toNat p) (99 - (↑x6:Int))) (Int.toNat p)))=true->(!!Option.isSome (wholeP (grownF (openFr f (isPc f p)) (Int.toNat p) (99 - (↑x6:Int))) 0))=true->Int.toNat p < List.length (Frm.pieces (grownF (openFr f (isPc f p)) (Int.toNat p) (99 - (↑x6:Int)))))
  (o22:smallF f->(!decide (openF f (isPc f p)=0))=false -> ∀ (x6:Nat),(x6<=100 - Int.toNat (Piece.lo (pc (openFr f (isPc f p)) (Int.toNat p))) /\ ∀ (j:Nat),j < x6->Option.isSome (wholeP (grownF (openFr f (isPc f p)) (Int.toNat p) (99 - (↑j:Int))) 0)=false)->decide (Piece.lo (pc (grownF (openFr f (isPc f p)) (Int.toNat p) (99 - (↑x6:Int))) (Int.toNat p))<=Piece.hi (pc (grownF (openFr f (isPc f p)) (Int.toNat p) (99 - (↑x6:Int))) (Int.toNat p)))=true->(!!Option.isSome (wholeP (grownF (openFr f (isPc f p)) (Int.toNat p) (99 - (↑x6:Int))) 0))=true->Piece.hi (pc (grownF (openFr f (isPc f p)) (Int.toNat p) (99 - (↑x6:Int))) (Int.toNat p))=growN f p)
  (o23:smallF f->(!decide (openF f (isPc f p)=0))=false -> ∀ (x6:Nat),(x6<=100 - Int.toNat (Piece.lo (pc (openFr f (isPc f p)) (Int.toNat p))) /\ ∀ (j:Nat),j < x6->Option.isSome (wholeP (grownF (openFr f (isPc f p)) (Int.toNat p) (99 - (↑j:Int))) 0)=false)->decide (Piece.lo (pc (grownF (openFr f (isPc f p)) (Int.toNat p) (99 - (↑x6:Int))) (Int.toNat p))<=Piece.hi (pc (grownF (openFr f (isPc f p)) (Int.toNat p) (99 - (↑x6:Int))) (Int.toNat p)))=true->(!!Option.isSome (wholeP (grownF (openFr f (isPc f p)) (Int.toNat p) (99 - (↑x6:Int))) 0))=true->0=growE f p)
  (o24:smallF f->(!decide (openF f (isPc f p)=0))=false -> ∀ (x6:Nat),(x6<=100 - Int.toNat (Piece.lo (pc (openFr f (isPc f p)) (Int.toNat p))) /\ ∀ (j:Nat),j < x6->Option.isSome (wholeP (grownF (openFr f (isPc f p)) (Int.toNat p) (99 - (↑j:Int))) 0)=false)->decide (Piece.lo (pc (grownF (openFr f (isPc f p)) (Int.toNat p) (99 - (↑x6:Int))) (Int.toNat p))<=Piece.hi (pc (grownF (openFr f (isPc f p)) (Int.toNat p) (99 - (↑x6:Int))) (Int.toNat p)))=true->(!!Option.isSome (wholeP (grownF (openFr f (isPc f p)) (Int.toNat p) (99 - (↑x6:Int))) 0))=false->Int.toNat p < List.length (Frm.pieces (grownF (openFr f (isPc f p)) (Int.toNat p) (99 - (↑x6:Int)))))
  (o25:smallF f->(!decide (openF f (isPc f p)=0))=false -> ∀ (x6:Nat),(x6<=100 - Int.toNat (Piece.lo (pc (openFr f (isPc f p)) (Int.toNat p))) /\ ∀ (j:Nat),j < x6->Option.isSome (wholeP (grownF (openFr f (isPc f p)) (Int.toNat p) (99 - (↑j:Int))) 0)=false)->decide (Piece.lo (pc (grownF (openFr f (isPc f p)) (Int.toNat p) (99 - (↑x6:Int))) (Int.toNat p))<=Piece.hi (pc (grownF (openFr f (isPc f p)) (Int.toNat p) (99 - (↑x6:Int))) (Int.toNat p)))=true->(!!Option.isSome (wholeP (grownF (openFr f (isPc f p)) (Int.toNat p) (99 - (↑x6:Int))) 0))=false->inI (Piece.hi (pc (grownF (openFr f (isPc f p)) (Int.toNat p) (99 - (↑x6:Int))) (Int.toNat p)) - 1))
  (o26:smallF f->(!decide (openF f (isPc f p)=0))=false -> ∀ (x6:Nat),(x6<=100 - Int.toNat (Piece.lo (pc (openFr f (isPc f p)) (Int.toNat p))) /\ ∀ (j:Nat),j < x6->Option.isSome (wholeP (grownF (openFr f (isPc f p)) (Int.toNat p) (99 - (↑j:Int))) 0)=false)->decide (Piece.lo (pc (grownF (openFr f (isPc f p)) (Int.toNat p) (99 - (↑x6:Int))) (Int.toNat p))<=Piece.hi (pc (grownF (openFr f (isPc f p)) (Int.toNat p) (99 - (↑x6:Int))) (Int.toNat p)))=true->(!!Option.isSome (wholeP (grownF (openFr f (isPc f p)) (Int.toNat p) (99 - (↑x6:Int))) 0))=false->Int.toNat p < List.length (Frm.pieces (grownF (openFr f (isPc f p)) (Int.toNat p) (99 - (↑x6:Int)))))
  (o27:smallF f->(!decide (openF f (isPc f p)=0))=false -> ∀ (x6:Nat),(x6<=100 - Int.toNat (Piece.lo (pc (openFr f (isPc f p)) (Int.toNat p))) /\ ∀ (j:Nat),j < x6->Option.isSome (wholeP (grownF (openFr f (isPc f p)) (Int.toNat p) (99 - (↑j:Int))) 0)=false)->decide (Piece.lo (pc (grownF (openFr f (isPc f p)) (Int.toNat p) (99 - (↑x6:Int))) (Int.toNat p))<=Piece.hi (pc (grownF (openFr f (isPc f p)) (Int.toNat p) (99 - (↑x6:Int))) (Int.toNat p)))=true->(!!Option.isSome (wholeP (grownF (openFr f (isPc f p)) (Int.toNat p) (99 - (↑x6:Int))) 0))=false->List.length (Frm.pieces (grownF (openFr f (isPc f p)) (Int.toNat p) (99 - (↑x6:Int))))=List.length (Frm.pieces (openFr f (isPc f p))))
  (o28:smallF f->(!decide (openF f (isPc f p)=0))=false -> ∀ (x6:Nat),(x6<=100 - Int.toNat (Piece.lo (pc (openFr f (isPc f p)) (Int.toNat p))) /\ ∀ (j:Nat),j < x6->Option.isSome (wholeP (grownF (openFr f (isPc f p)) (Int.toNat p) (99 - (↑j:Int))) 0)=false)->decide (Piece.lo (pc (grownF (openFr f (isPc f p)) (Int.toNat p) (99 - (↑x6:Int))) (Int.toNat p))<=Piece.hi (pc (grownF (openFr f (isPc f p)) (Int.toNat p) (99 - (↑x6:Int))) (Int.toNat p)))=true->(!!Option.isSome (wholeP (grownF (openFr f (isPc f p)) (Int.toNat p) (99 - (↑x6:Int))) 0))=false -> ∀ (i24:Nat),i24 < List.length (Frm.pieces (grownF (openFr f (isPc f p)) (Int.toNat p) (99 - (↑x6:Int))))->Decidable.rec (fun (h:¬i24=Int.toNat p)=>cPiece (pc (grownF (openFr f (isPc f p)) (Int.toNat p) (99 - (↑x6:Int))) i24)) (fun (h:i24=Int.toNat p)=>[] ++ ([iv (Piece.lo (pc (grownF (openFr f (isPc f p)) (Int.toNat p) (99 - (↑x6:Int))) (Int.toNat p)))] ++ ([iv (Piece.hi (pc (grownF (openFr f (isPc f p)) (Int.toNat p) (99 - (↑x6:Int))) (Int.toNat p)) - 1)] ++ [iv (Piece.pence (pc (grownF (openFr f (isPc f p)) (Int.toNat p) (99 - (↑x6:Int))) (Int.toNat p)))]))) (instDecidableEqNat i24 (Int.toNat p))=cPiece (pc (grownF (openFr f (isPc f p)) (Int.toNat p) (99 - (↑(x6 + 1):Int))) i24))
  (o29:smallF f->(!decide (openF f (isPc f p)=0))=false -> ∀ (x6:Nat),(x6<=100 - Int.toNat (Piece.lo (pc (openFr f (isPc f p)) (Int.toNat p))) /\ ∀ (j:Nat),j < x6->Option.isSome (wholeP (grownF (openFr f (isPc f p)) (Int.toNat p) (99 - (↑j:Int))) 0)=false)->decide (Piece.lo (pc (grownF (openFr f (isPc f p)) (Int.toNat p) (99 - (↑x6:Int))) (Int.toNat p))<=Piece.hi (pc (grownF (openFr f (isPc f p)) (Int.toNat p) (99 - (↑x6:Int))) (Int.toNat p)))=true->(!!Option.isSome (wholeP (grownF (openFr f (isPc f p)) (Int.toNat p) (99 - (↑x6:Int))) 0))=false->x6 + 1<=100 - Int.toNat (Piece.lo (pc (openFr f (isPc f p)) (Int.toNat p))) /\ ∀ (j:Nat),j < x6 + 1->Option.isSome (wholeP (grownF (openFr f (isPc f p)) (Int.toNat p) (99 - (↑j:Int))) 0)=false)
  (o30:smallF f->(!decide (openF f (isPc f p)=0))=false -> ∀ (x6:Nat),(x6<=100 - Int.toNat (Piece.lo (pc (openFr f (isPc f p)) (Int.toNat p))) /\ ∀ (j:Nat),j < x6->Option.isSome (wholeP (grownF (openFr f (isPc f p)) (Int.toNat p) (99 - (↑j:Int))) 0)=false)->decide (Piece.lo (pc (grownF (openFr f (isPc f p)) (Int.toNat p) (99 - (↑x6:Int))) (Int.toNat p))<=Piece.hi (pc (grownF (openFr f (isPc f p)) (Int.toNat p) (99 - (↑x6:Int))) (Int.toNat p)))=true->(!!Option.isSome (wholeP (grownF (openFr f (isPc f p)) (Int.toNat p) (99 - (↑x6:Int))) 0))=false->100 - (x6 + 1) < 100 - x6)
  (o31:smallF f->(!decide (openF f (isPc f p)=0))=false -> ∀ (x6:Nat),(x6<=100 - Int.toNat (Piece.lo (pc (openFr f (isPc f p)) (Int.toNat p))) /\ ∀ (j:Nat),j < x6->Option.isSome (wholeP (grownF (openFr f (isPc f p)) (Int.toNat p) (99 - (↑j:Int))) 0)=false)->decide (Piece.lo (pc (grownF (openFr f (isPc f p)) (Int.toNat p) (99 - (↑x6:Int))) (Int.toNat p))<=Piece.hi (pc (grownF (openFr f (isPc f p)) (Int.toNat p) (99 - (↑x6:Int))) (Int.toNat p)))=false->0=growN f p)
  (o32:smallF f->(!decide (openF f (isPc f p)=0))=false -> ∀ (x6:Nat),(x6<=100 - Int.toNat (Piece.lo (pc (openFr f (isPc f p)) (Int.toNat p))) /\ ∀ (j:Nat),j < x6->Option.isSome (wholeP (grownF (openFr f (isPc f p)) (Int.toNat p) (99 - (↑j:Int))) 0)=false)->decide (Piece.lo (pc (grownF (openFr f (isPc f p)) (Int.toNat p) (99 - (↑x6:Int))) (Int.toNat p))<=Piece.hi (pc (grownF (openFr f (isPc f p)) (Int.toNat p) (99 - (↑x6:Int))) (Int.toNat p)))=false->3=growE f p) :
  Triple Try.prog 26 (s26 f p):=by
 refine triple_of Try.func26 rfl Try.call26 T0_ok _ rfl rfl rfl rfl (Nat.le_of_ble_eq_true (by kernel_rfl)) (fun _ _ _ _ h=>h) ?_
 intro hpre C hC _ hE
 obtain ⟨P,w0,E0,av,hA,ro,df⟩:=C
 obtain ⟨rfl,rfl,rfl⟩:=hC
 refine swp_seq ?_
 refine zR [1,2] [0] (Ak 3 tv) ?_
 refine swp_seq ?_
 refine zC ([(3,CallSpec.eq (s88 f p) [true,true]),(4,CallSpec.eq (s83 f (isPc f p)) [true,true])]) [1,6,7] [88] (Ak 3 (An (An (An (zr (AV.agg (cFrm f))) (An (zr (iv p)) tv)) (An (t88 (f) (p)) (An (o0 hpre) (Ak 1 (fun (i0:Env)=>tv))))) (An (An (An (zr (AV.agg (cFrm f))) (An (zr (bv (isPc f p))) tv)) (An (t83 (f) (isPc f p)) (An hpre (Ak 1 (fun (i1:Env)=>tv))))) (Ak 6 tv)))) ?_
 refine swp_seq ?_
 refine swp_seq ?_
 refine zR [1,6,7,18] [88] (Ak 2 tv) ?_
 refine zI (!decide (openF f (isPc f p)=0)) (fun y2 => ?_) (fun y2 => ?_)
 ·refine swp_seq ?_
  refine zR [4,5] [] (Ak 3 tv) ?_
  refine swp_ret ?_
  exact zT [] (An (Ak 2 tv) (An (An (An (ci (o1 hpre y2)) (zr nilN)) (An (An (ci (o2 hpre y2)) (zr nilN)) tv)) (An (zr true) (An (zr true) (zr true)))))
 ·refine swp_skip ?_
  refine swp_seq ?_
  refine zC ([(3,CallSpec.eq (c26c f p) [false])]) [1,6] [88,152] (Ak 3 (An (An (An (An (zr 3) (An (zr (List.length (Frm.pieces (openFr f (isPc f p))))) (fun (i3:Nat)=>(fun (y4:i3 < List.length (Frm.pieces (openFr f (isPc f p))))=>(o3 hpre y2 i3 y4))))) tv) (An (t89o (Frm.pieces (openFr f (isPc f p))) (152)) (An (An (o4 hpre y2) (o5 hpre y2)) (Ak 1 (fun (i5:Env)=>tv))))) (Ak 3 tv))) ?_
  refine swp_seq ?_
  refine zR [6,8] [88,152] (Ak 4 (An (An (o6 hpre y2) (o7 hpre y2)) (Ak 2 tv))) ?_
  refine swp_seq ?_
  refine swp_seq ?_
  refine zR [6,8] [88,152] (Ak 3 (An (An (o8 hpre y2) tv) tv)) ?_
  refine swp_block ?_
  refine zL (Hint.ann (h26 f p) [(6,AV.ptr 88 []),(8,AV.vp 152 (Int.toNat p) 3 [PS.fld 0])] [(88,OB.cells 101 [iv (Frm.length (openFr f (isPc f p))),iv (Frm.slack (openFr f (isPc f p))),AV.sl 2 (List.length (Frm.strips (openFr f (isPc f p)))) fun (i:Nat)=>cStrip (stp (openFr f (isPc f p)) i),AV.vec 152,AV.sl 1 (List.length (Frm.columns (openFr f (isPc f p)))) fun (i:Nat)=>[aInts (col (openFr f (isPc f p)) i)]])] 10272) (zE hE [] [(88,.same 88),(152,.same 152)] [] [] (An (An (An (zr (some (Src.same 88))) (zr nilP)) (An (An (zr (some (Src.same 152))) (An (zr (Int.toNat p)) (An (zr 3) (zr ([PS.fld 0]))))) tv)) (An (An (An (zr 101) (An (An (An (zr (iv (Frm.length (openFr f (isPc f p))))) (zr nilN)) (An (An (zr (iv (Frm.slack (openFr f (isPc f p))))) (zr nilN)) (An (An (zr 2) (An (zr (List.length (Frm.strips (openFr f (isPc f p))))) (fun (i7:Nat)=>(fun (y8:i7 < List.length (Frm.strips (openFr f (isPc f p))))=>(zr (cStrip (stp (openFr f (isPc f p)) i7))))))) (An (zr (some (Src.same 152))) (An (An (zr 1) (An (zr (List.length (Frm.columns (openFr f (isPc f p))))) (fun (i9:Nat)=>(fun (y10:i9 < List.length (Frm.columns (openFr f (isPc f p))))=>(zr ([aInts (col (openFr f (isPc f p)) i9)])))))) tv))))) (zr true))) (An (An (zr 46) (An (zr 3) (An (zr (List.length (Frm.pieces (openFr f (isPc f p))))) (fun (i11:Nat)=>(fun (y12:i11 < List.length (Frm.pieces (openFr f (isPc f p))))=>(o9 hpre y2 i11 y12)))))) tv)) (An (zr true) (zr true))))) (o10 hpre y2) (fun (x6:Nat) hx6 => ?_)
  refine swp_seq ?_
  refine swp_seq ?_
  refine zR [6,8,43] [88,152] (Ak 3 (An (An (o11 hpre y2 x6 hx6) tv) (Ak 3 (An (An (o12 hpre y2 x6 hx6) tv) (Ak 1 tv))))) ?_
  refine zI (decide (Piece.lo (pc (grownF (openFr f (isPc f p)) (Int.toNat p) (99 - (↑x6:Int))) (Int.toNat p))<=Piece.hi (pc (grownF (openFr f (isPc f p)) (Int.toNat p) (99 - (↑x6:Int))) (Int.toNat p)))) (fun y13 => ?_) (fun y13 => ?_)
  ·refine swp_skip ?_
   refine swp_seq ?_
   refine swp_block ?_
   refine swp_seq ?_
   refine zC ([(1,CallSpec.eq (c26w f p x6) [false,true])]) [6,8,53] [88,152] (Ak 1 (An (An (An (An (ci (o13 hpre y2 x6 hx6 y13)) (An (ci (o14 hpre y2 x6 hx6 y13)) (An (An (zr 2) (An (o15 hpre y2 x6 hx6 y13) (fun (i14:Nat)=>(fun (y15:i14 < List.length (Frm.strips (grownF (openFr f (isPc f p)) (Int.toNat p) (99 - (↑x6:Int)))))=>(o16 hpre y2 x6 hx6 y13 i14 y15))))) (An (zr (AV.vec 152)) (An (An (zr 1) (An (o17 hpre y2 x6 hx6 y13) (fun (i16:Nat)=>(fun (y17:i16 < List.length (Frm.columns (grownF (openFr f (isPc f p)) (Int.toNat p) (99 - (↑x6:Int)))))=>(o18 hpre y2 x6 hx6 y13 i16 y17))))) tv))))) (An (zr (iv 0)) tv)) (An (lendT 46 152 0 (some 3) (t90w (grownF (openFr f (isPc f p)) (Int.toNat p) (99 - (↑x6:Int))) (0))) (An (An (o19 hpre y2 x6 hx6 y13) (An (by decide:Int.ofNat 0<=Int.ofNat 0) (by decide:Int.ofNat 0<=Int.ofNat 1000))) (An (An (o20 hpre y2 x6 hx6 y13) tv) (fun (i18:Env)=>tv))))) (Ak 1 tv))) ?_
   refine zI (!!Option.isSome (wholeP (grownF (openFr f (isPc f p)) (Int.toNat p) (99 - (↑x6:Int))) 0)) (fun y19 => ?_) (fun y19 => ?_)
   ·refine swp_seq ?_
    refine zR [4,5] [] (Ak 3 (An (An (o21 hpre y2 x6 hx6 y13 y19) tv) (Ak 2 tv))) ?_
    refine swp_ret ?_
    exact zT [] (An (Ak 2 tv) (An (An (An (ci (o22 hpre y2 x6 hx6 y13 y19)) (zr nilN)) (An (An (ci (o23 hpre y2 x6 hx6 y13 y19)) (zr nilN)) tv)) (An (zr true) (An (zr true) (zr true)))))
   ·refine swp_skip ?_
    refine zR [6,8] [88,152] (Ak 3 (An (An (o24 hpre y2 x6 hx6 y13 y19) tv) (An (o25 hpre y2 x6 hx6 y13 y19) (Ak 2 (An (An (o26 hpre y2 x6 hx6 y13 y19) tv) tv))))) ?_
    exact zn (zE hE [] [(88,.same 88),(152,.same 152)] [] [] (An (An (An (zr (some (Src.same 88))) (zr nilP)) (An (An (zr (some (Src.same 152))) (An (zr (Int.toNat p)) (An (zr 3) (zr ([PS.fld 0]))))) tv)) (An (An (An (zr 101) (An (An (An (zr (iv (Frm.length (openFr f (isPc f p))))) (zr nilN)) (An (An (zr (iv (Frm.slack (openFr f (isPc f p))))) (zr nilN)) (An (An (zr 2) (An (zr (List.length (Frm.strips (openFr f (isPc f p))))) (fun (i20:Nat)=>(fun (y21:i20 < List.length (Frm.strips (openFr f (isPc f p))))=>(zr (cStrip (stp (openFr f (isPc f p)) i20))))))) (An (zr (some (Src.same 152))) (An (An (zr 1) (An (zr (List.length (Frm.columns (openFr f (isPc f p))))) (fun (i22:Nat)=>(fun (y23:i22 < List.length (Frm.columns (openFr f (isPc f p))))=>(zr ([aInts (col (openFr f (isPc f p)) i22)])))))) tv))))) (zr true))) (An (An (zr 46) (An (zr 3) (An (o27 hpre y2 x6 hx6 y13 y19) (fun (i24:Nat)=>(fun (y25:i24 < List.length (Frm.pieces (grownF (openFr f (isPc f p)) (Int.toNat p) (99 - (↑x6:Int)))))=>(o28 hpre y2 x6 hx6 y13 y19 i24 y25)))))) tv)) (An (zr true) (zr true))))) (o29 hpre y2 x6 hx6 y13 y19) (o30 hpre y2 x6 hx6 y13 y19)
  ·refine swp_exit ?_
   refine swp_seq ?_
   refine zR [4,5] [] (Ak 2 tv) ?_
   refine swp_ret ?_
   exact zT [] (An (Ak 2 tv) (An (An (An (ci (o31 hpre y2 x6 hx6 y13)) (zr nilN)) (An (An (ci (o32 hpre y2 x6 hx6 y13)) (zr nilN)) tv)) (An (zr true) (An (zr true) (zr true)))))
theorem t26 (f:Frm) (p:Int):Triple Try.prog 26 (s26 f p):=by
 apply w26
 case o0=>exact fun hp=>small_fits hp
 all_goals (intro hp h)
 case o1=>have e:=gate_bad h; simp [growN,growG,e]
 case o2=>have e:=gate_bad h; simp [growE,growG,e]
 all_goals (obtain ⟨e1,e0,e2,e3,e4⟩:=gate_ok h; (try rw [e2]))
 all_goals (have hc:=isPc_get e0; have hn:p.toNat < f.pieces.length:=by omega)
 all_goals (have hpc:=e3.piece p.toNat hn; have hg:growG f p=true:=by simp [growG,e1,e0])
 case o3=>intro i _; rfl
 case o4=>omega
 case o5=>have:=e3.pieces; omega
 case o6=>exact hc.1
 case o7=>exact hc.2
 case o8=>exact hn
 case o9 =>
  intro i hi
  rw [grown_pc _ hn]
  refine rec_ei (fun h => ?_) (fun h => ?_)
  ·rw [if_neg h]; rfl
  ·rw [if_pos h]; rfl
 case o10=>exact ⟨Nat.zero_le _,fun j hj=>absurd hj (Nat.not_lt_zero _)⟩
 all_goals (intro x hx; obtain ⟨h1,h2⟩:=hx)
 all_goals (try rw [grown_len])
 all_goals (try exact hn)
 all_goals (intro hl; rw [grown_pc _ hn,if_pos rfl] at hl; try simp only [decide_eq_true_eq,decide_eq_false_iff_not] at hl)
 case o31 | o32 =>
  have hk:growK f p.toNat=none:=grow_none (fun j hj=>h2 j (by omega))
  first | (simp [growN,hg,hk]; done) | (simp [growE,hg,hk]; done)
 all_goals (have hx1:x < 100 - (pc f p.toNat).lo.toNat:=by omega)
 all_goals (try (first | rfl | (intro i _; rfl)))
 case o19=>exact grown_sound e3 hn (by omega) (by omega)
 all_goals (intro hw)
 case o21 | o24 | o26=>(try rw [grown_len]); exact hn
 case o27=>first | rfl | rw [grown_len]
 case o22 =>
  have hk:=grow_hit hx1 h2 (by simpa using hw)
  rw [grown_pc _ hn,if_pos rfl]; simp [growN,hg,hk]
 case o23 =>
  have hk:=grow_hit hx1 h2 (by simpa using hw)
  simp [growE,hg,hk]
 case o25=>rw [grown_pc _ hn,if_pos rfl]; exact ⟨by show _<=99 - (x:Int) - 1; omega,by show 99 - (x:Int) - 1<=_; omega⟩
 case o28 =>
  intro i hi
  rw [grown_pc _ hn,grown_pc _ hn,grown_pc _ hn]
  refine rec_ei (fun h => ?_) (fun h => ?_)
  ·rw [if_neg h,if_neg h]
  ·rw [if_pos h,if_pos rfl]; show [iv _,iv (99 - (x:Int) - 1),iv _] = [iv _,iv (99 - ((x + 1:Nat):Int)),iv _]; rw [show (99 - (x:Int) - 1)=99 - ((x + 1:Nat):Int) by omega]
 case o29=>exact ⟨by omega,lt_succ_cases h2 (by simpa using hw)⟩
 case o30=>omega
end Go.Ab
namespace Go.Sh
open Go.Ab
def setsP:List Int->List (List Int)
 | []=>[[]]
 | a :: ws=>(List.range (a.toNat + 1)).flatMap fun (n:Nat)=>(setsP ws).map (((n:Nat):Int) :: ·)
theorem range_mul {α:Type} (g:Nat->α) (P:Nat):∀ m,(List.range (m * P)).map g=(List.range m).flatMap fun n=>(List.range P).map fun r=>g (n * P + r):=by
 intro m
 induction m with
 | zero=>simp
 | succ m ih=>rw [Nat.succ_mul,List.range_add,List.map_append,ih,List.range_succ,List.flatMap_append,List.map_map]; simp
theorem setsP_eq:∀ left:List Int,setsP left=(List.range (prodL left)).map (setN left):=by
 intro left
 induction left with
 | nil=>rfl
 | cons a ws ih =>
  show _=(List.range ((a.toNat + 1) * prodL ws)).map _
  rw [range_mul,setsP,ih]
  congr 1
  funext n
  rw [List.map_map]
  refine List.map_congr_left fun r hr => ?_
  have h:=List.mem_range.1 hr
  show _=((((n * prodL ws + r) / prodL ws:Nat):Int) :: setN ws ((n * prodL ws + r) % prodL ws))
  rw [Nat.mul_comm,Nat.mul_add_div (prodL_pos ws),Nat.div_eq_of_lt h,Nat.mul_add_mod,Nat.mod_eq_of_lt h]; rfl
theorem mem_setsP:∀ {left s:List Int},(∀ q,q < left.length->0<=left.getD q 0)->(s ∈ setsP left ↔ s.length=left.length /\ ∀ q,q < left.length->0<=s.getD q 0/\s.getD q 0<=left.getD q 0):=by
 intro left
 induction left with
 | nil =>
  intro s _
  simp only [setsP,List.mem_singleton,List.length_nil]
  constructor
  ·rintro rfl; exact ⟨rfl,fun q hq=>absurd hq (Nat.not_lt_zero _)⟩
  ·intro h; exact List.eq_nil_of_length_eq_zero h.1
 | cons a ws ih =>
  intro s h
  have h0:0<=a:=h 0 (Nat.succ_pos _)
  have ih':=fun s=>ih (s:=s) (fun q hq=>h (q + 1) (Nat.succ_lt_succ hq))
  simp only [setsP,List.mem_flatMap,List.mem_map,List.mem_range,ih']
  constructor
  ·rintro ⟨n,hn,t,⟨h1,h2⟩,rfl⟩
   refine ⟨by rw [List.length_cons,List.length_cons,h1],fun q hq => ?_⟩
   cases q with
   | zero=>show 0<=(n:Int)/\(n:Int)<=a; omega
   | succ q=>exact h2 q (Nat.lt_of_succ_lt_succ hq)
  ·rintro ⟨h1,h2⟩
   match s,h1 with
   | x :: t,h1 =>
    have h3:0<=x/\x<=a:=h2 0 (Nat.succ_pos _)
    refine ⟨x.toNat,by omega,t,⟨Nat.succ.inj h1,fun q hq=>h2 (q + 1) (Nat.succ_lt_succ hq)⟩,?_⟩
    rw [show ((x.toNat:Nat):Int)=x by omega]
theorem setsP_sort:∀ left:List Int,(setsP left).Pairwise fun a b=>earlier a b=true:=by
 intro left
 induction left with
 | nil=>exact List.pairwise_singleton _ _
 | cons a ws ih =>
  rw [setsP,List.pairwise_flatMap]
  refine ⟨fun n _ => ?_,?_⟩
  ·rw [List.pairwise_map]
   refine ih.imp fun h => ?_
   show (if _=_ then _ else _)=true
   rw [if_pos rfl]; exact h
  ·refine List.pairwise_lt_range.imp @fun m n hmn x hx y hy => ?_
   obtain ⟨x',_,rfl⟩:=List.mem_map.1 hx
   obtain ⟨y',_,rfl⟩:=List.mem_map.1 hy
   show (if _=_ then _ else _)=true
   rw [if_neg (by omega)]; exact decide_eq_true (by omega)
theorem earlier_irr:∀ a:List Int,earlier a a=false:=by
 intro a
 induction a with
 | nil=>rfl
 | cons x xs ih=>show (if _=_ then _ else _)=false; rw [if_pos rfl]; exact ih
def earlierL:List (List Int)->List (List Int)->Prop
 | x :: xs,y :: ys=>if x=y then earlierL xs ys else earlier x y=true
 | _,_=>False
def manyL:List (List Int)->Int
 | []=>0
 | s :: l=>sumS s + manyL l
def laysR (f:Frm):List Span->List Int->List (List (List Int))
 | [],_=>[[]]
 | r :: rs,left=>(setsP left).flatMap fun s=>if within (pointsP f s) r.lo r.hi then (laysR f rs (restL left s)).map (s :: ·) else []
def IsLay (f:Frm):List Span->List Int->List (List Int)->Prop
 | [],_,[]=>True
 | r :: rs,left,s :: l=>s ∈ setsP left/\within (pointsP f s) r.lo r.hi=true/\IsLay f rs (restL left s) l
 | _,_,_=>False
theorem mem_laysR {f:Frm}:∀ {rooms:List Span} {left:List Int} {l:List (List Int)},l ∈ laysR f rooms left ↔ IsLay f rooms left l:=by
 intro rooms
 induction rooms with
 | nil =>
  intro left l
  cases l with
  | nil=>simp [laysR,IsLay]
  | cons s l=>simp [laysR,IsLay]
 | cons r rs ih =>
  intro left l
  rw [laysR,List.mem_flatMap]
  constructor
  ·rintro ⟨s,hs,h⟩
   split at h
   ·rename_i hw
    obtain ⟨l',h1,rfl⟩:=List.mem_map.1 h
    exact ⟨hs,hw,ih.1 h1⟩
   ·cases h
  ·intro h
   match l,h with
   | s :: l,⟨h1,h2,h3⟩ =>
    refine ⟨s,h1,?_⟩
    rw [if_pos h2]
    exact List.mem_map.2 ⟨l,ih.2 h3,rfl⟩
theorem laysR_sort (f:Frm):∀ (rooms:List Span) (left:List Int),(laysR f rooms left).Pairwise earlierL:=by
 intro rooms
 induction rooms with
 | nil=>intro left; exact List.pairwise_singleton _ _
 | cons r rs ih =>
  intro left
  rw [laysR,List.pairwise_flatMap]
  refine ⟨fun s _ => ?_,?_⟩
  ·split
   ·rw [List.pairwise_map]
    refine (ih _).imp fun h => ?_
    show if _=_ then _ else _
    rw [if_pos rfl]; exact h
   ·exact List.Pairwise.nil
  ·refine (setsP_sort left).imp @fun a b hab x hx y hy => ?_
   split at hx
   ·split at hy
    ·obtain ⟨x',_,rfl⟩:=List.mem_map.1 hx
     obtain ⟨y',_,rfl⟩:=List.mem_map.1 hy
     show if _=_ then _ else _
     rw [if_neg (by rintro rfl; rw [earlier_irr] at hab; cases hab)]; exact hab
    ·cases hy
   ·cases hx
theorem snoc_ind {α:Type} {P:List α->Prop} (h0:P []) (h1:∀ l x,P l->P (l ++ [x])) (l:List α):P l:=by
 have h:∀ m:List α,P m.reverse:=by
  intro m
  induction m with
  | nil=>exact h0
  | cons x m ih=>rw [List.reverse_cons]; exact h1 _ _ ih
 have:=h l.reverse
 rwa [List.reverse_reverse] at this
def fmS (b:Lay) (l:List (List Int)):Lay:=if betterL (manyL l) b then some (l,manyL l) else b
def fmL (ls:List (List (List Int))):Lay:=ls.foldl fmS none
theorem fm_snoc (ls:List (List (List Int))) (l:List (List Int)):fmL (ls ++ [l])=fmS (fmL ls) l:=by unfold fmL; rw [List.foldl_append]; rfl
def orL (a b:Lay):Lay:=match b with | none=>a | some x=>if betterL x.2 a then some x else a
theorem fm_append (a b:List (List (List Int))):fmL (a ++ b)=orL (fmL a) (fmL b):=by
 induction b using snoc_ind with
 | h0=>rw [List.append_nil]; rfl
 | h1 b x ih =>
  rw [← List.append_assoc,fm_snoc,fm_snoc,ih]
  generalize fmL a=p
  generalize fmL b=q
  cases q with
  | none=>rfl
  | some q =>
   cases p with
   | none =>
    by_cases h:manyL x < q.2 <;> simp [orL,fmS,betterL,h]
   | some p =>
    by_cases h1:q.2 < p.2
    ·by_cases h2:manyL x < q.2
     ·have h3:manyL x < p.2:=by omega
      simp [orL,fmS,betterL,h1,h2,h3]
     ·simp [orL,fmS,betterL,h1,h2]
    ·by_cases h2:manyL x < p.2
     ·have h3:manyL x < q.2:=by omega
      simp [orL,fmS,betterL,h1,h2,h3]
     ·by_cases h3:manyL x < q.2 <;> simp [orL,fmS,betterL,h1,h2,h3]
theorem fm_cons (s:List Int) (ls:List (List (List Int))):fmL (ls.map (s :: ·))=(fmL ls).map fun x=>(s :: x.1,sumS s + x.2):=by
 induction ls using snoc_ind with
 | h0=>rfl
 | h1 ls x ih =>
  rw [List.map_append,List.map_cons,List.map_nil,fm_snoc,fm_snoc,ih]
  cases fmL ls with
  | none=>rfl
  | some y =>
   by_cases h:manyL x < y.2
   ·have h2:sumS s + manyL x < sumS s + y.2:=by omega
    simp [fmS,betterL,manyL,h,h2]
   ·have h2:¬ sumS s + manyL x < sumS s + y.2:=by omega
    simp [fmS,betterL,manyL,h,h2]
theorem lock_fm (f:Frm):∀ (rooms:List Span) (left:List Int),lockP f rooms left=fmL (laysR f rooms left):=by
 intro rooms
 induction rooms with
 | nil=>intro left; rfl
 | cons r rs ih =>
  intro left
  rw [lockP,laysR,setsP_eq]
  generalize prodL left=n
  induction n with
  | zero=>rfl
  | succ n ihn =>
   rw [List.range_succ,List.foldl_append,ihn,List.map_append,List.flatMap_append,fm_append]
   generalize fmL _=b
   simp only [List.foldl_cons,List.foldl_nil,List.map_cons,List.map_nil,List.flatMap_cons,List.flatMap_nil,List.append_nil]
   unfold stepL
   split
   ·rw [ih,fm_cons]
    cases fmL (laysR f rs (restL left (setN left n))) with
    | none=>rfl
    | some x=>rfl
   ·rfl
theorem fm_none:∀ {ls:List (List (List Int))},fmL ls=none->ls = []:=by
 intro ls
 induction ls using snoc_ind with
 | h0=>intro _; rfl
 | h1 ls z _ =>
  intro h
  rw [fm_snoc] at h
  cases e2:fmL ls with
  | none=>rw [e2] at h; cases h
  | some w=>rw [e2] at h; simp only [fmS] at h; split at h <;> cases h
theorem fm_some:∀ {ls:List (List (List Int))} {x:List (List Int) × Int},ls.Pairwise earlierL->fmL ls=some x->x.1 ∈ ls/\x.2=manyL x.1 /\ ∀ l,l ∈ ls->x.2<=manyL l/\(manyL l=x.2->l=x.1 ∨ earlierL x.1 l):=by
 intro ls
 induction ls using snoc_ind with
 | h0=>intro x _ h; cases h
 | h1 ls y ih =>
  intro x hp h
  rw [fm_snoc] at h
  rw [List.pairwise_append] at hp
  have hp3:=fun a ha=>hp.2.2 a ha y (by simp)
  cases e:fmL ls with
  | none =>
   rw [e] at h
   cases h
   have hn:ls = []:=fm_none e
   subst hn
   refine ⟨by simp,rfl,fun l hl => ?_⟩
   have:l=y:=by simpa using hl
   subst this; exact ⟨Int.le_refl _,fun _ => .inl rfl⟩
  | some w =>
   obtain ⟨h1,h2,h3⟩:=ih hp.1 e
   rw [e] at h
   simp only [fmS,betterL,decide_eq_true_eq] at h
   split at h
   ·rename_i hlt
    cases h
    refine ⟨by simp,rfl,fun l hl => ?_⟩
    rcases List.mem_append.1 hl with hl | hl
    ·have:=(h3 l hl).1
     exact ⟨by show manyL y<=_; omega,fun h=>by have h:manyL l=manyL y:=h; omega⟩
    ·have:l=y:=by simpa using hl
     subst this; exact ⟨Int.le_refl _,fun _ => .inl rfl⟩
   ·rename_i hlt
    cases h
    refine ⟨List.mem_append_left _ h1,h2,fun l hl => ?_⟩
    rcases List.mem_append.1 hl with hl | hl
    ·exact h3 l hl
    ·have:l=y:=by simpa using hl
     subst this
     exact ⟨by omega,fun _ => .inr (hp3 _ h1)⟩
end Go.Sh
namespace Go.Sh
open Go.Ab
def usedL:List (List Int)->Nat->Int
 | [],_=>0
 | s :: l,q=>s.getD q 0 + usedL l q
theorem usedL_pos:∀ {l:List (List Int)} {q:Nat},(∀ i,i < l.length->0<=(l.getD i []).getD q 0)->0<=usedL l q:=by
 intro l
 induction l with
 | nil=>intro q _; exact Int.le_refl _
 | cons s l ih =>
  intro q h
  have h0:0<=s.getD q 0:=h 0 (Nat.succ_pos _)
  have h1:=ih (q:=q) (fun i hi=>h (i + 1) (Nat.succ_lt_succ hi))
  show 0<=s.getD q 0 + usedL l q
  omega
theorem isLay_iff {f:Frm}:∀ {rooms:List Span} {left:List Int} {l:List (List Int)},(∀ q,q < left.length->0<=left.getD q 0)->(IsLay f rooms left l ↔ l.length=rooms.length ∧
  (∀ i,i < rooms.length->(l.getD i []).length=left.length/\(∀ q,q < left.length->0<=(l.getD i []).getD q 0)/\within (pointsP f (l.getD i [])) (rooms.getD i ⟨0,0⟩).lo (rooms.getD i ⟨0,0⟩).hi=true) ∧
  ∀ q,q < left.length->usedL l q<=left.getD q 0):=by
 intro rooms
 induction rooms with
 | nil =>
  intro left l h
  cases l with
  | nil=>exact ⟨fun _=>⟨rfl,fun i hi=>absurd hi (Nat.not_lt_zero _),fun q hq=>h q hq⟩,fun _=>True.intro⟩
  | cons s l=>exact ⟨fun h=>h.elim,fun h=>absurd h.1 (by simp)⟩
 | cons r rs ih =>
  intro left l h
  cases l with
  | nil=>exact ⟨fun h=>h.elim,fun h=>absurd h.1 (by simp)⟩
  | cons s l =>
   simp only [IsLay]
   rw [mem_setsP h]
   constructor
   ·rintro ⟨⟨h1,h2⟩,h3,h4⟩
    have hr:∀ q,q < (restL left s).length->0<=(restL left s).getD q 0:=by
     intro q hq
     rw [restL_len] at hq
     rw [restL_get hq]
     have:=h2 q hq
     omega
    obtain ⟨g1,g2,g3⟩:=(ih hr).1 h4
    rw [restL_len] at g2 g3
    refine ⟨by rw [List.length_cons,List.length_cons,g1],fun i hi => ?_,fun q hq => ?_⟩
    ·cases i with
     | zero=>exact ⟨h1,fun q hq=>(h2 q hq).1,h3⟩
     | succ i=>exact g2 i (Nat.lt_of_succ_lt_succ hi)
    ·have:=g3 q hq
     rw [restL_get hq] at this
     show s.getD q 0 + usedL l q<=_
     omega
   ·rintro ⟨h1,h2,h3⟩
    have h1':l.length=rs.length:=Nat.succ.inj h1
    have h0:=h2 0 (Nat.succ_pos _)
    have hu:∀ q,q < left.length->0<=usedL l q:=fun q hq=>usedL_pos (fun i hi=>(h2 (i + 1) (Nat.succ_lt_succ (by omega))).2.1 q hq)
    have h3':∀ q,q < left.length->s.getD q 0 + usedL l q<=left.getD q 0:=h3
    have hs:∀ q,q < left.length->0<=s.getD q 0/\s.getD q 0<=left.getD q 0:=fun q hq=>by
     have a:=h0.2.1 q hq
     have b:=hu q hq
     have c:=h3' q hq
     have a':0<=s.getD q 0:=a
     omega
    refine ⟨⟨h0.1,hs⟩,h0.2.2,?_⟩
    have hr:∀ q,q < (restL left s).length->0<=(restL left s).getD q 0:=by
     intro q hq
     rw [restL_len] at hq
     rw [restL_get hq]
     have:=hs q hq
     omega
    refine (ih hr).2 ⟨h1',fun i hi => ?_,fun q hq => ?_⟩
    ·rw [restL_len]; exact h2 (i + 1) (Nat.succ_lt_succ hi)
    ·rw [restL_len] at hq
     rw [restL_get hq]
     have:=h3' q hq
     omega
def LayF (f:Frm) (w:Int) (l:List (List Int)):Prop:=IsLay f (roomsTo f w f.columns.length) (stockTo f f.strips.length) l
theorem rooms_get {f:Frm} {w:Int} {n i:Nat} (h:i < n):(roomsTo f w n).getD i ⟨0,0⟩=roomP f (highP f (delW (col f i) (bitP w))):=by
 rw [getD_lt _ _ (by rw [rooms_len]; exact h)]; unfold roomsTo; rw [List.getElem_map,List.getElem_range]
def sureH (f:Frm) (s:Span) (n:Int):Prop:=f.length - f.slack<=s.lo + n/\s.hi + n<=f.length
theorem within_room {f:Frm} {s:Span} {n:Int} (h:0<=n):within n (roomP f s).lo (roomP f s).hi=true ↔ sureH f s n:=by
 rw [within_iff]; unfold roomP sureH; simp only; omega
theorem pts_pos {f:Frm} (hs:Sound f) {s:List Int} (h1:s.length=f.strips.length) (h2:∀ q,q < f.strips.length->0<=s.getD q 0):0<=pointsP f s:=by
 unfold pointsP
 have:∀ k,k<=s.length->0<=ptTo f s k:=by
  intro k
  induction k with
  | zero=>intro _; exact Int.le_refl 0
  | succ k ih =>
   intro hk
   rw [pt_succ]
   have:=ih (by omega)
   have h4:=hs.strip k (by omega)
   have h3:0<=s.getD k 0 * (stp f k).thick:=Int.mul_nonneg (h2 k (by omega)) (by omega)
   omega
 exact this _ (Nat.le_refl _)
theorem layF_iff {f:Frm} (hs:Sound f) {w:Int} {l:List (List Int)}:LayF f w l ↔ l.length=f.columns.length ∧
  (∀ i,i < f.columns.length->(l.getD i []).length=f.strips.length/\(∀ q,q < f.strips.length->0<=(l.getD i []).getD q 0)/\sureH f (highP f (delW (col f i) (bitP w))) (pointsP f (l.getD i []))) ∧
  ∀ q,q < f.strips.length->usedL l q<=(stp f q).many:=by
 unfold LayF
 rw [isLay_iff (stock_good hs).nonneg,rooms_len,stock_len]
 constructor
 ·rintro ⟨h1,h2,h3⟩
  refine ⟨h1,fun i hi => ?_,fun q hq=>by rw [← stock_get hq]; exact h3 q hq⟩
  obtain ⟨a,b,c⟩:=h2 i hi
  refine ⟨a,b,?_⟩
  rw [rooms_get hi] at c
  exact (within_room (pts_pos hs a b)).1 c
 ·rintro ⟨h1,h2,h3⟩
  refine ⟨h1,fun i hi => ?_,fun q hq=>by rw [stock_get hq]; exact h3 q hq⟩
  obtain ⟨a,b,c⟩:=h2 i hi
  refine ⟨a,b,?_⟩
  rw [rooms_get hi]
  exact (within_room (pts_pos hs a b)).2 c
theorem whole_some {f:Frm} {w:Int} {x:List (List Int) × Int} (h:wholeP f w=some x):LayF f w x.1/\x.2=manyL x.1 /\ ∀ l,LayF f w l->x.2<=manyL l/\(manyL l=x.2->l=x.1 ∨ earlierL x.1 l):=by
 unfold wholeP at h
 rw [lock_fm] at h
 obtain ⟨h1,h2,h3⟩:=fm_some (laysR_sort _ _ _) h
 exact ⟨mem_laysR.1 h1,h2,fun l hl=>h3 l (mem_laysR.2 hl)⟩
theorem whole_none {f:Frm} {w:Int} (h:wholeP f w=none) (l:List (List Int)):¬ LayF f w l:=by
 unfold wholeP at h
 rw [lock_fm] at h
 intro hl
 have:=mem_laysR.2 hl
 rw [fm_none h] at this
 cases this
theorem whole_of {f:Frm} {w:Int} {l:List (List Int)} (h:LayF f w l):(wholeP f w).isSome=true:=by
 cases e:wholeP f w with
 | none=>exact absurd h (whole_none e l)
 | some x=>rfl
theorem whole_better {f o:Frm} {w v:Int} (h:∀ l,LayF f w l -> ∃ l',LayF o v l'/\manyL l'<=manyL l) :
  (wholeP f w=none ∨ (wholeP o v).isSome=true/\layM (wholeP o v)<=layM (wholeP f w)):=by
 cases e:wholeP f w with
 | none=>exact .inl rfl
 | some x =>
  right
  obtain ⟨h1,h2,h3⟩:=whole_some e
  obtain ⟨l',g1,g2⟩:=h _ h1
  cases e2:wholeP o v with
  | none=>exact absurd g1 (whole_none e2 _)
  | some y =>
   obtain ⟨k1,k2,k3⟩:=whole_some e2
   exact ⟨rfl,by show y.2<=x.2; have:=(k3 l' g1).1; omega⟩
def stripsV (f:Frm):Int:=match wholeP f 0 with | some x=>x.2 | none=>100000
theorem whole_in {f:Frm} (hs:Sound f) {w:Int}:layOK (wholeP f w) f.columns.length:=by
 have h:=lock_ok hs (roomsTo f w f.columns.length) (stockTo f f.strips.length) (stock_good hs)
 rw [rooms_len] at h
 exact h
theorem stripsV_le {f o:Frm} (hs:Sound f) (ho:Sound o) (h:∀ l,LayF f 0 l -> ∃ l',LayF o 0 l'/\manyL l'<=manyL l):stripsV o<=stripsV f:=by
 unfold stripsV
 have hb:=whole_better h
 have h1:=whole_in (w:=0) hs
 have h2:=whole_in (w:=0) ho
 have h3:=hs.columns
 have h4:=ho.columns
 cases e:wholeP f 0 with
 | none =>
  cases e2:wholeP o 0 with
  | none=>exact Int.le_refl _
  | some y=>have:=(h2 y e2).2.1; show y.2<=100000; omega
 | some x =>
  rw [e] at hb
  rcases hb with hb | ⟨hb,hc⟩
  ·cases hb
  ·cases e2:wholeP o 0 with
   | none=>rw [e2] at hb; cases hb
   | some y=>rw [e2] at hc; exact hc
theorem lockP_congr {f g:Frm} (h:f.strips=g.strips):∀ (rooms:List Span) (left:List Int),lockP f rooms left=lockP g rooms left:=by
 have hp:∀ s,pointsP f s=pointsP g s:=by intro s; unfold pointsP ptTo stp; rw [h]
 intro rooms
 induction rooms with
 | nil=>intro left; rfl
 | cons r rs ih =>
  intro left
  have:lockP f rs=lockP g rs:=funext ih
  unfold lockP
  rw [this]
  congr 1
  funext b i
  unfold stepL
  rw [hp]
end Go.Sh
namespace Go.Sh
open Go.Ab
def RisN (n:Nat) (l:List Int):Prop:=l.Pairwise (· < ·) /\ ∀ x,x ∈ l->0<=x/\x < n
theorem out_mem {w:Int} {n:Nat} {p:Int}:p ∈ outTo w n ↔ (0<=p/\p < n)/\bitP w p=true:=by
 unfold outTo
 rw [List.mem_filterMap]
 constructor
 ·rintro ⟨i,hi,h⟩
  have hi:=List.mem_range.1 hi
  split at h
  ·cases h; rename_i hb; exact ⟨by omega,hb⟩
  ·cases h
 ·rintro ⟨h1,h2⟩
  have e:((p.toNat:Nat):Int)=p:=by omega
  exact ⟨p.toNat,List.mem_range.2 (by omega),by rw [e,if_pos h2]⟩
theorem out_ris (w:Int) (n:Nat):RisN n (outTo w n):=by
 refine ⟨?_,fun x hx=>(out_mem.1 hx).1⟩
 unfold outTo
 rw [List.pairwise_filterMap]
 refine List.pairwise_lt_range.imp @fun a b h x hx y hy => ?_
 split at hx
 ·split at hy
  ·cases hx; cases hy; omega
  ·cases hy
 ·cases hx
theorem bit_high {w n i:Nat} (h:i < n):bitP ((w + 2 ^ n:Nat):Int) (i:Int)=bitP (w:Int) (i:Int):=by
 unfold bitP
 have e:∀ v:Nat,(v:Int) / 2 ^ ((i:Nat):Int).toNat % 2=((v / 2 ^ i % 2:Nat):Int):=by
  intro v
  rw [Int.toNat_natCast]; norm_cast
 rw [e,e]
 have:(w + 2 ^ n) / 2 ^ i % 2=w / 2 ^ i % 2:=by
  rw [show n=i + 1 + (n - i - 1) by omega,Nat.pow_add,Nat.pow_succ,Nat.mul_assoc,Nat.add_mul_div_left _ _ (Nat.two_pow_pos i),Nat.add_mul_mod_self_left]
 rw [this]
theorem bit_top {w n:Nat} (h:w < 2 ^ n):bitP ((w + 2 ^ n:Nat):Int) (n:Int)=true:=by
 unfold bitP
 rw [Int.toNat_natCast]
 have:(w + 2 ^ n) / 2 ^ n % 2=1:=by
  rw [Nat.add_div_right _ (Nat.two_pow_pos n),Nat.div_eq_of_lt h]
 have e:((w + 2 ^ n:Nat):Int) / 2 ^ n % 2=(((w + 2 ^ n) / 2 ^ n % 2:Nat):Int):=by norm_cast
 rw [e,this]; rfl
theorem bit_none {w n:Nat} (h:w < 2 ^ n):bitP (w:Int) (n:Int)=false:=by
 unfold bitP
 rw [Int.toNat_natCast]
 have e:(w:Int) / 2 ^ n % 2=((w / 2 ^ n % 2:Nat):Int):=by norm_cast
 rw [e,Nat.div_eq_of_lt h]; rfl
theorem fmap_congr {α β:Type} {f g:α->Option β}:∀ {l:List α},(∀ x,x ∈ l->f x=g x)->l.filterMap f=l.filterMap g:=by
 intro l
 induction l with
 | nil=>intro _; rfl
 | cons x l ih =>
  intro h
  rw [List.filterMap_cons,List.filterMap_cons,h x (by simp),ih (fun y hy=>h y (by simp [hy]))]
theorem bits_of:∀ {n:Nat} {l:List Int},RisN n l -> ∃ w:Nat,w < 2 ^ n/\outTo (w:Int) n=l:=by
 intro n
 induction n with
 | zero =>
  intro l h
  have:l = []:=by
   cases l with
   | nil=>rfl
   | cons x l=>have:=h.2 x (by simp); omega
  exact ⟨0,Nat.one_pos,by rw [this]; rfl⟩
 | succ n ih =>
  intro l h
  by_cases hn:(n:Int) ∈ l
  · -- the last one is n
   obtain ⟨a,b,rfl⟩:=List.append_of_mem hn
   have hp:=h.1
   rw [List.pairwise_append] at hp
   have hb:b = []:=by
    cases b with
    | nil=>rfl
    | cons y b =>
     have h1:=(List.pairwise_cons.1 hp.2.1).1 y (by simp)
     have h2:=(h.2 y (by simp)).2
     omega
   subst hb
   obtain ⟨w,hw,e⟩:=ih (l:=a) ⟨hp.1,fun x hx=>by
    have h1:=(h.2 x (by simp [hx])).1
    have h2:=hp.2.2 x hx n (by simp)
    omega⟩
   refine ⟨w + 2 ^ n,by rw [Nat.pow_succ]; omega,?_⟩
   rw [out_t (bit_top hw),← e]
   congr 1
   unfold outTo
   refine fmap_congr fun i hi => ?_
   have:=List.mem_range.1 hi
   rw [bit_high this]
  ·obtain ⟨w,hw,e⟩:=ih (l:=l) ⟨h.1,fun x hx=>by
    have h1:=h.2 x hx
    have:x ≠ n:=fun e=>hn (e ▸ hx)
    omega⟩
   exact ⟨w,by rw [Nat.pow_succ]; omega,by rw [out_f (bit_none hw),e]⟩
def withoutF (f:Frm) (out:List Int):Frm:={ f with columns:=f.columns.map fun c=>c.filter fun p => !isIn out p }
theorem isIn_iff {l:List Int} {p:Int}:isIn l p=true ↔ p ∈ l:=by
 unfold isIn
 rw [List.any_eq_true]
 constructor
 ·rintro ⟨x,hx,h⟩; rw [of_decide_eq_true h] at hx; exact hx
 ·intro h; exact ⟨p,h,by simp⟩
theorem col_without (f:Frm) (out:List Int) (c:Nat):col (withoutF f out) c=(col f c).filter fun p => !isIn out p:=by
 unfold col withoutF
 simp only [List.getD_eq_getElem?_getD,List.getElem?_map]
 cases f.columns[c]? <;> rfl
theorem without_sound {f:Frm} (hs:Sound f) (out:List Int):Sound (withoutF f out):=by
 have hg:∀ i,goodL f (col (withoutF f out) i):=fun i=>by
  rw [col_without]
  exact goodL_mem (Nat.le_trans (List.length_filter_le _ _) (hs.colLen i)) (fun w hw=>mem_goodL (col_good hs i) w (List.mem_filter.1 hw).1)
 exact ⟨hs.len,hs.slack,hs.strips,hs.pieces,by show (f.columns.map _).length<=3; rw [List.length_map]; exact hs.columns,hs.strip,hs.piece,fun i=>(hg i).1,fun i k hk=>(hg i).2 k hk⟩
theorem bit_zero (p:Int):bitP 0 p=false:=by
 unfold bitP; rw [Int.zero_ediv]; rfl
theorem del_zero (l:List Int):delW l (bitP 0)=l:=by
 unfold delW; rw [List.filter_eq_self]; intro p _; rw [bit_zero]; rfl
theorem whole_without {f:Frm} (hs:Sound f) (w:Int):wholeP f w=wholeP (withoutF f (outP f w)) 0:=by
 unfold wholeP
 rw [lockP_congr (f:=f) (g:=withoutF f (outP f w)) rfl]
 have hl:(withoutF f (outP f w)).columns.length=f.columns.length:=by show (f.columns.map _).length=_; rw [List.length_map]
 have e:roomsTo f w f.columns.length=roomsTo (withoutF f (outP f w)) 0 (withoutF f (outP f w)).columns.length:=by
  rw [hl]
  unfold roomsTo
  refine List.map_congr_left fun c _ => ?_
  rw [del_zero,col_without]
  have:(col f c).filter (fun p => !isIn (outP f w) p)=delW (col f c) (bitP w):=by
   unfold delW
   refine List.filter_congr fun p hp => ?_
   have h1:=mem_goodL (col_good hs c) p hp
   have:isIn (outP f w) p=bitP w p:=by
    rw [Bool.eq_iff_iff,isIn_iff]; unfold outP; rw [out_mem]
    exact ⟨fun h=>h.2,fun h=>⟨h1,h⟩⟩
   rw [this]
  rw [this]
  rfl
 rw [e]; rfl
def canP (f:Frm) (out:List Int):Bool:=(wholeP (withoutF f out) 0).isSome
theorem can_bits {f:Frm} (hs:Sound f) (w:Int):(wholeP f w).isSome=canP f (outP f w):=by unfold canP; rw [whole_without hs]
def LtK (f:Frm) (a b:List Int):Prop:=penceP f a < penceP f b ∨ (penceP f a=penceP f b/\(a.length < b.length ∨ (a.length=b.length/\earlier a b=true)))
theorem earlier_trans:∀ {a b c:List Int},earlier a b=true->earlier b c=true->earlier a c=true:=by
 intro a
 induction a with
 | nil=>intro b c h; cases h
 | cons x xs ih =>
  intro b c h1 h2
  match b,c,h1,h2 with
  | y :: ys,z :: zs,h1,h2 =>
   simp only [earlier] at h1 h2 ⊢
   by_cases e:x=y
   ·subst e
    rw [if_pos rfl] at h1
    by_cases e2:x=z
    ·subst e2; rw [if_pos rfl] at h2 ⊢; exact ih h1 h2
    ·rw [if_neg e2] at h2 ⊢; exact h2
   ·rw [if_neg e] at h1
    by_cases e2:y=z
    ·subst e2; rw [if_neg e]; exact h1
    ·rw [if_neg e2] at h2
     simp only [decide_eq_true_eq] at h1 h2
     rw [if_neg (by omega)]; exact decide_eq_true (by omega)
theorem LtK_trans {f:Frm} {a b c:List Int} (h1:LtK f a b) (h2:LtK f b c):LtK f a c:=by
 unfold LtK at *
 rcases h1 with h1 | ⟨h1,h1'⟩
 ·rcases h2 with h2 | ⟨h2,_⟩ <;> exact .inl (by omega)
 ·rcases h2 with h2 | ⟨h2,h2'⟩
  ·exact .inl (by omega)
  ·refine .inr ⟨by omega,?_⟩
   rcases h1' with h1' | ⟨h1',k1⟩
   ·rcases h2' with h2' | ⟨h2',_⟩ <;> exact .inl (by omega)
   ·rcases h2' with h2' | ⟨h2',k2⟩
    ·exact .inl (by omega)
    ·exact .inr ⟨by omega,earlier_trans k1 k2⟩
theorem LtK_irr {f:Frm} {a:List Int}:¬ LtK f a a:=by
 rintro (h | ⟨_,h | ⟨_,h⟩⟩)
 ·omega
 ·omega
 ·rw [earlier_irr] at h; cases h
theorem cmpL_early:∀ {a b:List Int},a.length=b.length->(cmpL a b < 0 ↔ earlier a b=true):=by
 intro a
 induction a with
 | nil =>
  intro b h
  have:b = []:=List.eq_nil_of_length_eq_zero h.symm
  subst this
  exact ⟨fun h=>absurd h (by decide),fun h=>by cases h⟩
 | cons x xs ih =>
  intro b h
  match b,h with
  | y :: ys,h =>
   simp only [cmpL,earlier]
   by_cases e:x=y
   ·subst e
    rw [if_pos (cmpW_same x),if_pos rfl]
    exact ih (Nat.succ.inj h)
   ·rw [if_neg (fun h=>e (cmpW_zero h)),if_neg e]
    unfold cmpW
    by_cases h1:x < y
    ·rw [if_pos h1]; exact ⟨fun _=>decide_eq_true h1,fun _=>by omega⟩
    ·rw [if_neg h1,if_pos (by omega)]
     exact ⟨fun h=>absurd h (by omega),fun h=>absurd (of_decide_eq_true h) h1⟩
theorem orI3 (a b c:Int):orI [a,b,c]=if a=0 then (if b=0 then c else b) else a:=by
 unfold orI
 by_cases h1:a=0
 ·subst h1
  by_cases h2:b=0
  ·subst h2
   by_cases h3:c=0
   ·subst h3; rfl
   ·simp [h3]
  ·simp [h2]
 ·simp [h1]
theorem or_lt {f:Frm} {a b:List Int}:orI [penceP f a - penceP f b,(a.length:Int) - (b.length:Int),cmpL a b] < 0 ↔ LtK f a b:=by
 rw [orI3]
 unfold LtK
 by_cases h1:penceP f a=penceP f b
 ·rw [if_pos (by omega)]
  by_cases h2:a.length=b.length
  ·rw [if_pos (by omega),cmpL_early h2]
   constructor
   ·intro h; exact .inr ⟨h1,.inr ⟨h2,h⟩⟩
   ·rintro (h | ⟨_,h | ⟨_,h⟩⟩)
    ·omega
    ·omega
    ·exact h
  ·rw [if_neg (by omega)]
   constructor
   ·intro h; exact .inr ⟨h1,.inl (by omega)⟩
   ·rintro (h | ⟨_,h | ⟨h,_⟩⟩)
    ·omega
    ·omega
    ·omega
 ·rw [if_neg (by omega)]
  constructor
  ·intro h; exact .inl (by omega)
  ·rintro (h | ⟨h,_⟩) <;> omega
def BestO (f:Frm) (n:Nat) (x:List Int × Int):Prop:=x.2=penceP f x.1/\(∃ w:Nat,w < n/\x.1=outP f (w:Int)/\(wholeP f (w:Int)).isSome=true) /\ ∀ v:Nat,v < n->(wholeP f (v:Int)).isSome=true -> ¬ LtK f (outP f (v:Int)) x.1
theorem worse_iff {f:Frm} {x:List Int × Int} (hx:x.2=penceP f x.1) (w:Int):worse f (some x) w=true ↔ ¬ LtK f (outP f w) x.1:=by
 unfold worse
 simp only [decide_eq_true_eq]
 rw [hx,← or_lt]
 omega
theorem ref_best (f:Frm):∀ n,(refTo f n=none -> ∀ v,v < n->(wholeP f (v:Int)).isSome=false) /\ ∀ x,refTo f n=some x->BestO f n x:=by
 intro n
 induction n with
 | zero=>exact ⟨fun _ v hv=>absurd hv (Nat.not_lt_zero _),fun x h=>(by cases h)⟩
 | succ n ih =>
  obtain ⟨ih1,ih2⟩:=ih
  rw [ref_succ]
  unfold stepO
  cases e:refTo f n with
  | none =>
   have h0:=ih1 e
   cases hw:(wholeP f (n:Int)).isSome with
   | false =>
    rw [if_pos (by simp [worse])]
    exact ⟨fun _=>lt_succ_cases h0 hw,fun x h=>(by cases h)⟩
   | true =>
    rw [if_neg (by simp [worse])]
    refine ⟨fun h=>(by cases h),fun x h => ?_⟩
    cases h
    refine ⟨rfl,⟨n,Nat.lt_succ_self n,rfl,hw⟩,fun v hv hc => ?_⟩
    by_cases hvn:v=n
    ·subst hvn; exact LtK_irr
    ·rw [h0 v (by omega)] at hc; cases hc
  | some x =>
   obtain ⟨g1,⟨w,g2,g3,g4⟩,g5⟩:=ih2 x e
   cases hw:(wholeP f (n:Int)).isSome with
   | false =>
    rw [if_pos (by simp)]
    refine ⟨fun h=>(by cases h),fun y h => ?_⟩
    cases h
    refine ⟨g1,⟨w,by omega,g3,g4⟩,fun v hv hc => ?_⟩
    by_cases hvn:v=n
    ·subst hvn; rw [hw] at hc; cases hc
    ·exact g5 v (by omega) hc
   | true =>
    by_cases hl:LtK f (outP f (n:Int)) x.1
    ·have:worse f (some x) (n:Int)=false:=by
      cases e2:worse f (some x) (n:Int) with
      | false=>rfl
      | true=>exact absurd hl ((worse_iff g1 _).1 e2)
     rw [this,if_neg (by simp)]
     refine ⟨fun h=>(by cases h),fun y h => ?_⟩
     cases h
     refine ⟨rfl,⟨n,Nat.lt_succ_self n,rfl,hw⟩,fun v hv hc => ?_⟩
     by_cases hvn:v=n
     ·subst hvn; exact LtK_irr
     ·intro h; exact g5 v (by omega) hc (LtK_trans h hl)
    ·rw [(worse_iff g1 _).2 hl,if_pos (by simp)]
     refine ⟨fun h=>(by cases h),fun y h => ?_⟩
     cases h
     refine ⟨g1,⟨w,by omega,g3,g4⟩,fun v hv hc => ?_⟩
     by_cases hvn:v=n
     ·subst hvn; exact hl
     ·exact g5 v (by omega) hc
theorem refP_some {f:Frm} (hs:Sound f) {x:List Int × Int} (h:refP f=some x):x.2=penceP f x.1/\RisN f.pieces.length x.1/\canP f x.1=true /\ ∀ l,RisN f.pieces.length l->canP f l=true -> ¬ LtK f l x.1:=by
 obtain ⟨h1,⟨w,h2,h3,h4⟩,h5⟩:=(ref_best f (2 ^ f.pieces.length)).2 x h
 rw [can_bits hs] at h4
 refine ⟨h1,by rw [h3]; exact out_ris _ _,by rw [h3]; exact h4,fun l hl hc => ?_⟩
 obtain ⟨v,hv,e⟩:=bits_of hl
 have:=h5 v hv (by rw [can_bits hs]; unfold outP; rw [e]; exact hc)
 unfold outP at this
 rw [e] at this; exact this
theorem refP_none {f:Frm} (hs:Sound f) (h:refP f=none) {l:List Int} (hl:RisN f.pieces.length l):canP f l=false:=by
 obtain ⟨v,hv,e⟩:=bits_of hl
 have:=(ref_best f (2 ^ f.pieces.length)).1 h v hv
 rw [can_bits hs] at this
 unfold outP at this
 rw [e] at this; exact this
def lostV (f:Frm):Int:=match refP f with | some x=>x.2 | none=>100000
theorem lostV_in {f:Frm} (hs:Sound f):0<=lostV f/\lostV f<=100000:=by
 unfold lostV
 cases e:refP f with
 | none=>exact ⟨by decide,by decide⟩
 | some x=>have:=ref_ok hs _ x e; exact ⟨this.1,by have:=this.2.1; show x.2<=_; omega⟩
theorem lostV_le {f o:Frm} (hs:Sound f) (ho:Sound o) (hn:f.pieces.length=o.pieces.length) (hp:∀ l,penceP o l=penceP f l) (h:∀ l,RisN f.pieces.length l->canP f l=true->canP o l=true):lostV o<=lostV f:=by
 unfold lostV
 cases e:refP f with
 | none=>exact (lostV_in ho).2
 | some x =>
  obtain ⟨h1,h2,h3,h4⟩:=refP_some hs e
  cases e2:refP o with
  | none =>
   have:=refP_none ho e2 (hn ▸ h2)
   rw [h _ h2 h3] at this; cases this
  | some y =>
   obtain ⟨g1,g2,g3,g4⟩:=refP_some ho e2
   have:=g4 x.1 (hn ▸ h2) (h _ h2 h3)
   show y.2<=x.2
   rw [g1,h1,← hp]
   rcases Int.lt_or_le (penceP o x.1) (penceP o y.1) with hlt | hle
   ·exact absurd (.inl hlt) this
   ·exact hle
end Go.Sh
namespace Go.Sh
open Go.Ab
end Go.Sh
namespace Go.Sh
open Go.Ab
theorem high_snoc (f:Frm) (l:List Int) (p:Int):highP f (l ++ [p])=hiStep f (highP f l) p:=by unfold highP; rw [List.foldl_append]; rfl
theorem high_mono {f o:Frm} (hp:∀ i,(pc f i).lo<=(pc o i).lo/\(pc o i).hi<=(pc f i).hi) (l:List Int):(highP f l).lo<=(highP o l).lo/\(highP o l).hi<=(highP f l).hi:=by
 induction l using snoc_ind with
 | h0=>exact ⟨Int.le_refl _,Int.le_refl _⟩
 | h1 l p ih =>
  rw [high_snoc,high_snoc]
  have:=hp p.toNat
  simp only [hiStep]
  omega
structure AsGood (f o:Frm):Prop where
 strips:o.strips.length=f.strips.length
 thick:∀ i,(stp o i).thick=(stp f i).thick
 many:∀ i,i < f.strips.length->(stp f i).many<=(stp o i).many
 columns:o.columns=f.columns
 length:o.length=f.length
 slack:f.slack<=o.slack
 pieces:o.pieces.length=f.pieces.length
 high:∀ i,(pc f i).lo<=(pc o i).lo/\(pc o i).hi<=(pc f i).hi
 pence:∀ i,(pc o i).pence=(pc f i).pence
theorem AsGood.points {f o:Frm} (h:AsGood f o) (s:List Int):pointsP o s=pointsP f s:=by
 unfold pointsP ptTo
 congr 1
 funext a i
 rw [h.thick]
theorem AsGood.lay {f o:Frm} (h:AsGood f o) (hs:Sound f) (ho:Sound o) {w:Int} {l:List (List Int)} (hl:LayF f w l):LayF o w l:=by
 rw [layF_iff hs] at hl
 rw [layF_iff ho]
 obtain ⟨h1,h2,h3⟩:=hl
 refine ⟨by rw [h.columns]; exact h1,fun i hi => ?_,fun q hq => ?_⟩
 ·rw [h.columns] at hi
  obtain ⟨a,b,c⟩:=h2 i hi
  refine ⟨by rw [h.strips]; exact a,fun q hq=>b q (by rw [← h.strips]; exact hq),?_⟩
  have e:col o i=col f i:=by unfold col; rw [h.columns]
  rw [e,h.points]
  have:=high_mono h.high (delW (col f i) (bitP w))
  unfold sureH at c ⊢
  have h4:=h.length
  have h5:=h.slack
  omega
 ·rw [h.strips] at hq
  have:=h3 q hq
  have:=h.many q hq
  omega
theorem AsGood.without {f o:Frm} (h:AsGood f o) (out:List Int):AsGood (withoutF f out) (withoutF o out) :=
 ⟨h.strips,h.thick,h.many,by show o.columns.map _=f.columns.map _; rw [h.columns],h.length,h.slack,h.pieces,h.high,h.pence⟩
theorem AsGood.pence' {f o:Frm} (h:AsGood f o) (l:List Int):penceP o l=penceP f l:=by
 unfold penceP
 congr 1
 funext a p
 rw [h.pence]
theorem AsGood.stripsV {f o:Frm} (h:AsGood f o) (hs:Sound f) (ho:Sound o):stripsV o<=stripsV f :=
 stripsV_le hs ho fun l hl=>⟨l,h.lay hs ho hl,Int.le_refl _⟩
theorem whole_is {f:Frm} {w:Int}:(wholeP f w).isSome=true ↔ ∃ l,LayF f w l:=by
 constructor
 ·intro h
  cases e:wholeP f w with
  | none=>rw [e] at h; cases h
  | some x=>exact ⟨x.1,(whole_some e).1⟩
 ·rintro ⟨l,hl⟩; exact whole_of hl
theorem can_is {f:Frm} {out:List Int}:canP f out=true ↔ ∃ l,LayF (withoutF f out) 0 l:=whole_is
theorem AsGood.lostV {f o:Frm} (h:AsGood f o) (hs:Sound f) (ho:Sound o):lostV o<=lostV f:=by
 refine lostV_le hs ho h.pieces.symm h.pence' fun l _ hc => ?_
 rw [can_is] at hc ⊢
 obtain ⟨x,hx⟩:=hc
 exact ⟨x,(h.without l).lay (without_sound hs l) (without_sound ho l) hx⟩
end Go.Sh
namespace Go.Sh
open Go.Ab
variable {f:Frm}
end Go.Sh
namespace Go.Sh
structure Plc where
 column:Int
 set:List Int
 one:Int
 other:Int
def stockedF (f:Frm) (k:Nat) (m:Int):Frm:={ f with strips:=f.strips.set k { stp f k with many:=m } }
def exP:Frm:=⟨60,2,[⟨5,2⟩,⟨3,2⟩,⟨18,1⟩],[⟨20,21,9⟩,⟨30,30,5⟩,⟨40,41,7⟩,⟨12,13,4⟩],[[0,1],[2,3]]⟩
def exO:Frm:=stockedF exP 1 3
end Go.Sh
namespace Go.En
open Go Go.Ab Go.Sh
def cPlc (x:Plc):List AV:=[iv x.column,aInts x.set,iv x.one,iv x.other]
abbrev vPlc (x:Plc):AV := .agg (cPlc x)
end Go.En
namespace Go.Ab
open Go Go.RowKit Go.Proofs Go.Sh Go.En
def ou31 (f:Frm):OutSpec:={ args:=[vFrm f],pre:=smallF f,res := .agg [iv f.length,iv f.slack,.vec 0,.vec 1,.vec 2],hout:=[(0,.vec 65 2 f.strips.length (fun i=>cStrip (stp f i))),(1,.vec 46 3 f.pieces.length (fun i=>cPiece (pc f i))),(2,.vec 27 1 f.columns.length (fun i=>[aInts (col f i)]))] }
def h31 (f:Frm):Hint:={ X:=Nat,M:=fun i=>[(4,iv i)],H:=fun i=>[(120,.cells 26 [iv f.length,iv f.slack,.vec 72,.vec 104,.vec 5000]),(5000,.vec 27 1 i (fun k=>[aInts (col f k)]))],I:=fun i=>i<=f.columns.length,mu:=fun i=>f.columns.length - i,x0:=(0:Nat),nx:=fun i=>i + 1 }
def s31o (f:Frm) (id:Nat):CallSpec:=(ou31 f).at [(0,id),(1,id + 1),(2,id + 2)]
def s49 (f:Frm) (k m:Int):CallSpec:={ args:=[vFrm f,iv k,iv m],res:=vFrm (stockedF f k.toNat m),pre:=smallF f/\0<=k/\k < f.strips.length }
def c49 (f:Frm) (k m:Int) (id:Nat):CallSpec:=s31o f id
def s82:CallSpec:={ args:=[],res := .tup [vFrm exP,vFrm exO] }
def c82:CallSpec:=s49 exP 1 3
def s82o (f o:Frm):CallSpec:={ args:=[],res := .tup [vFrm f,vFrm o],pre:=f=exP/\o=exO }
def sw20 (f o:Frm):CallSpec:={ args:=[],res:=bv true,pre:=f=exP/\o=exO }
def c20a (f o:Frm):CallSpec:=s82o f o
def c20b (f o:Frm):CallSpec:=s36 o 0 [2,0,0]
def c20c (f o:Frm):CallSpec:=s40 (refuseL f) [3]
def s20:CallSpec:={ args:=[],res:=bv true }
def s3 (f:Frm) (x:Plc):CallSpec:={ args:=[vFrm f,vPlc x],res:=bv true,pre:=fitsF f/\x.set.length<=big }
end Go.Ab
namespace Go.Ab
open Go Go.RowKit Go.Proofs Go.Sh Go.En
theorem wo31 (f:Frm)
  (o0:smallF f->0 + List.length (Frm.strips f)<=65536)
  (o1:smallF f->0 + List.length (Frm.pieces f)<=65536)
  (o2:smallF f->0=(↑0:Int))
  (o3:smallF f->0<=List.length (Frm.columns f))
  (o4:smallF f -> ∀ (x0:Nat),x0<=List.length (Frm.columns f)->decide ((↑x0:Int) < (↑(List.length (Frm.columns f)):Int))=true->0<=(↑x0:Int))
  (o5:smallF f -> ∀ (x0:Nat),x0<=List.length (Frm.columns f)->decide ((↑x0:Int) < (↑(List.length (Frm.columns f)):Int))=true->(↑x0:Int) < (↑(List.length (Frm.columns f)):Int))
  (o6:smallF f -> ∀ (x0:Nat),x0<=List.length (Frm.columns f)->decide ((↑x0:Int) < (↑(List.length (Frm.columns f)):Int))=true->0 + List.length (col f x0)<=65536)
  (o7:smallF f -> ∀ (x0:Nat),x0<=List.length (Frm.columns f)->decide ((↑x0:Int) < (↑(List.length (Frm.columns f)):Int))=true->x0 + 1<=65536)
  (o8:smallF f -> ∀ (x0:Nat),x0<=List.length (Frm.columns f)->decide ((↑x0:Int) < (↑(List.length (Frm.columns f)):Int))=true->inI ((↑x0:Int) + 1))
  (o9:smallF f -> ∀ (x0:Nat),x0<=List.length (Frm.columns f)->decide ((↑x0:Int) < (↑(List.length (Frm.columns f)):Int))=true->(↑x0:Int) + 1=(↑(x0 + 1):Int))
  (o10:smallF f -> ∀ (x0:Nat),x0<=List.length (Frm.columns f)->decide ((↑x0:Int) < (↑(List.length (Frm.columns f)):Int))=true -> ∀ (i2:Nat),i2 < x0 + 1->catF x0 (fun (k:Nat)=>[aInts (col f k)]) (fun (j:Nat)=>List.getD [[AV.sl 1 (0 + List.length (col f x0)) fun (i:Nat)=>[iv (List.getD (col f x0) i 0)]]] j (TI.za ti27)) i2 = [aInts (col f i2)])
  (o11:smallF f -> ∀ (x0:Nat),x0<=List.length (Frm.columns f)->decide ((↑x0:Int) < (↑(List.length (Frm.columns f)):Int))=true->x0 + 1<=List.length (Frm.columns f))
  (o12:smallF f -> ∀ (x0:Nat),x0<=List.length (Frm.columns f)->decide ((↑x0:Int) < (↑(List.length (Frm.columns f)):Int))=true->List.length (Frm.columns f) - (x0 + 1) < List.length (Frm.columns f) - x0)
  (o13:smallF f -> ∀ (x0:Nat),x0<=List.length (Frm.columns f)->decide ((↑x0:Int) < (↑(List.length (Frm.columns f)):Int))=false->0 + List.length (Frm.strips f)=List.length (Frm.strips f))
  (o14:smallF f -> ∀ (x0:Nat),x0<=List.length (Frm.columns f)->decide ((↑x0:Int) < (↑(List.length (Frm.columns f)):Int))=false->0 + List.length (Frm.pieces f)=List.length (Frm.pieces f))
  (o15:smallF f -> ∀ (x0:Nat),x0<=List.length (Frm.columns f)->decide ((↑x0:Int) < (↑(List.length (Frm.columns f)):Int))=false->x0=List.length (Frm.columns f))
  (l:List (Nat × Nat)) (hl:l.map (·.1)=(OutSpec.hout (ou31 f)).map (·.1)) (hnd:(l.map (·.2)).Nodup) :
  Triple Try.prog 31 (OutSpec.at (ou31 f) l):=by
 refine triple_out Try.func31 rfl Try.call31 T0_ok _ _ _ _ l rfl (Nat.le_of_ble_eq_true (by kernel_rfl)) hl hnd (by kernel_rfl) (by kernel_rfl) (by kernel_rfl) ?_
 intro hpre C hC hE
 obtain ⟨P,w0,E0,av,hA,ro,df⟩:=C
 obtain ⟨rfl,rfl,rfl⟩:=hC
 refine swp_seq ?_
 refine zR [1,2] [0,8] (Ak 2 tv) ?_
 refine swp_seq ?_
 refine zR [1,2,3] [0,8,120,72,104] (Ak 7 (An (o0 hpre) (Ak 3 (An (o1 hpre) (Ak 3 tv))))) ?_
 refine swp_seq ?_
 refine swp_seq ?_
 refine zR [1,2,3,4] [0,8,120,72,104] (Ak 1 tv) ?_
 refine swp_block ?_
 refine zL (Hint.ann (h31 f) [(1,AV.ptr 0 []),(2,AV.ptr 8 []),(3,AV.ptr 120 [])] [(0,OB.cells 26 (cFrm f)),(8,OB.cells 26 [iv 0,iv 0,nilv,nilv,nilv]),(72,OB.vec 65 2 (0 + List.length (Frm.strips f)) fun (i:Nat)=>cStrip (stp f i)),(104,OB.vec 46 3 (0 + List.length (Frm.pieces f)) fun (i:Nat)=>cPiece (pc f i))] 10144) (zE hE [] [(0,.same 0),(8,.same 8),(120,.same 120),(72,.same 72),(104,.same 104),(5000,.nil)] [] [0,8,72,104] (An (An (An (zr (some (Src.same 0))) (zr nilP)) (An (An (zr (some (Src.same 8))) (zr nilP)) (An (An (zr (some (Src.same 120))) (zr nilP)) (An (An (ci (o2 hpre)) (zr nilN)) tv)))) (An (An (An (zr (OB.cells 26 (cFrm f))) (zr true)) (An (An (zr (OB.cells 26 [iv 0,iv 0,nilv,nilv,nilv])) (zr true)) (An (An (zr (OB.vec 65 2 (0 + List.length (Frm.strips f)) fun (i:Nat)=>cStrip (stp f i))) (zr true)) (An (An (zr (OB.vec 46 3 (0 + List.length (Frm.pieces f)) fun (i:Nat)=>cPiece (pc f i))) (zr true)) (An (An (zr 26) (An (An (An (zr (iv (Frm.length f))) (zr nilN)) (An (An (zr (iv (Frm.slack f))) (zr nilN)) (An (zr (some (Src.same 72))) (An (zr (some (Src.same 104))) (An (zr (some Src.nil)) tv))))) (zr true))) (An (zr 0) tv)))))) (An (zr true) (zr true))))) (o3 hpre) (fun (x0:Nat) hx0 => ?_)
 refine swp_seq ?_
 refine swp_seq ?_
 refine zR [1,2,3,4,22] [0,8,120,72,104,5000] (Ak 5 tv) ?_
 refine zI (decide ((↑x0:Int) < (↑(List.length (Frm.columns f)):Int))) (fun y1 => ?_) (fun y1 => ?_)
 ·refine swp_skip ?_
  refine swp_seq ?_
  refine swp_block ?_
  refine zR [1,2,3,4] [0,8,120,72,104,10264] (Ak 6 (An (An (o4 hpre x0 hx0 y1) (o5 hpre x0 hx0 y1)) (Ak 1 (An (o6 hpre x0 hx0 y1) (Ak 1 (An (o7 hpre x0 hx0 y1) (Ak 2 tv))))))) ?_
  refine zR [1,2,3,4] [0,8,120,72,104,10264] (Ak 1 (An (o8 hpre x0 hx0 y1) (Ak 1 tv))) ?_
  exact zn (zE hE [] [(0,.same 0),(8,.same 8),(120,.same 120),(72,.same 72),(104,.same 104),(5000,.same 10264)] [] [0,8,72,104] (An (An (An (zr (some (Src.same 0))) (zr nilP)) (An (An (zr (some (Src.same 8))) (zr nilP)) (An (An (zr (some (Src.same 120))) (zr nilP)) (An (An (ci (o9 hpre x0 hx0 y1)) (zr nilN)) tv)))) (An (An (An (zr (OB.cells 26 (cFrm f))) (zr true)) (An (An (zr (OB.cells 26 [iv 0,iv 0,nilv,nilv,nilv])) (zr true)) (An (An (zr (OB.vec 65 2 (0 + List.length (Frm.strips f)) fun (i:Nat)=>cStrip (stp f i))) (zr true)) (An (An (zr (OB.vec 46 3 (0 + List.length (Frm.pieces f)) fun (i:Nat)=>cPiece (pc f i))) (zr true)) (An (An (zr 26) (An (An (An (zr (iv (Frm.length f))) (zr nilN)) (An (An (zr (iv (Frm.slack f))) (zr nilN)) (An (zr (some (Src.same 72))) (An (zr (some (Src.same 104))) (An (zr (some (Src.same 10264))) tv))))) (zr true))) (An (An (zr 27) (An (zr 1) (An (zr (x0 + 1)) (fun (i2:Nat)=>(fun (y3:i2 < x0 + 1)=>(o10 hpre x0 hx0 y1 i2 y3)))))) tv)))))) (An (zr true) (zr true))))) (o11 hpre x0 hx0 y1) (o12 hpre x0 hx0 y1)
 ·refine swp_exit ?_
  refine swp_seq ?_
  refine zR [2] [8,72,104,5000] (Ak 2 tv) ?_
  refine swp_ret ?_
  exact zO (ASt.mk [(2,AV.ptr 90 [])] [(90,OB.cells 26 [iv (Frm.length f),iv (Frm.slack f),AV.vec 0,AV.vec 1,AV.vec 2]),(0,OB.vec 65 2 (List.length (Frm.strips f)) fun (i:Nat)=>cStrip (stp f i)),(1,OB.vec 46 3 (List.length (Frm.pieces f)) fun (i:Nat)=>cPiece (pc f i)),(2,OB.vec 27 1 (List.length (Frm.columns f)) fun (i:Nat)=>[aInts (col f i)])] 100) (zE hE [] [(90,.same 8),(0,.same 72),(1,.same 104),(2,.same 5000)] [] [] (An (An (An (zr (some (Src.same 8))) (zr nilP)) tv) (An (An (An (zr 26) (An (An (An (zr (iv (Frm.length f))) (zr nilN)) (An (An (zr (iv (Frm.slack f))) (zr nilN)) (An (zr (some (Src.same 72))) (An (zr (some (Src.same 104))) (An (zr (some (Src.same 5000))) tv))))) (zr true))) (An (An (zr 65) (An (zr 2) (An (o13 hpre x0 hx0 y1) (fun (i4:Nat)=>(fun (y5:i4 < 0 + List.length (Frm.strips f))=>(zr (cStrip (stp f i4)))))))) (An (An (zr 46) (An (zr 3) (An (o14 hpre x0 hx0 y1) (fun (i6:Nat)=>(fun (y7:i6 < 0 + List.length (Frm.pieces f))=>(zr (cPiece (pc f i6)))))))) (An (An (zr 27) (An (zr 1) (An (o15 hpre x0 hx0 y1) (fun (i8:Nat)=>(fun (y9:i8 < x0)=>(zr ([aInts (col f i8)]))))))) tv)))) (An (zr true) (zr true))))) (An (Ak 1 tv) (An (zr (AV.agg [iv (Frm.length f),iv (Frm.slack f),AV.vec 0,AV.vec 1,AV.vec 2])) (An (zr (some (OB.vec 65 2 (List.length (Frm.strips f)) fun (i:Nat)=>cStrip (stp f i)))) (An (zr (some (OB.vec 46 3 (List.length (Frm.pieces f)) fun (i:Nat)=>cPiece (pc f i)))) (An (zr (some (OB.vec 27 1 (List.length (Frm.columns f)) fun (i:Nat)=>[aInts (col f i)]))) tv)))))
theorem to31 (f:Frm) (l:List (Nat × Nat)) (hl:l.map (·.1) = [0,1,2]) (hnd:(l.map (·.2)).Nodup):Triple Try.prog 31 ((ou31 f).at l):=by
 apply wo31 (l:=l) (hl:=hl) (hnd:=hnd)
 all_goals (intro hp; obtain ⟨a1,a2,a3,a4⟩:=hp)
 case o6=>intro x hx hl; have:=a4 x; show _<=_; omega
 case o10 =>
  intro x hx hl i hi
  refine catF_idx (fun k=>[aInts (col f k)]) ?_ hi
  show [AV.sl 1 (0 + (col f x).length) _] = [aInts (col f x)]
  rw [Nat.zero_add]; rfl
 all_goals (first | omega | rfl | skip)
 all_goals (intro x hx hl; simp only [decide_eq_true_eq,decide_eq_false_iff_not] at hl)
 all_goals (first | omega | (simp only [inI]; omega))
theorem t31o (f:Frm) (id:Nat):Triple Try.prog 31 (s31o f id):=to31 f _ rfl (by simp)
theorem w49 (f:Frm) (k:Int) (m:Int)
  (o0:smallF f/\0<=k/\k < (↑(List.length (Frm.strips f)):Int)->0<=k)
  (o1:smallF f/\0<=k/\k < (↑(List.length (Frm.strips f)):Int)->k < (↑(List.length (Frm.strips f)):Int))
  (o2:smallF f/\0<=k/\k < (↑(List.length (Frm.strips f)):Int)->Int.toNat k < List.length (Frm.strips f))
  (o3:smallF f/\0<=k/\k < (↑(List.length (Frm.strips f)):Int)->0<=k)
  (o4:smallF f/\0<=k/\k < (↑(List.length (Frm.strips f)):Int)->k < (↑(List.length (Frm.strips f)):Int))
  (o5:smallF f/\0<=k/\k < (↑(List.length (Frm.strips f)):Int)->Int.toNat k < List.length (Frm.strips f))
  (o6:smallF f/\0<=k/\k < (↑(List.length (Frm.strips f)):Int)->Frm.length f=Frm.length (stockedF f (Int.toNat k) m))
  (o7:smallF f/\0<=k/\k < (↑(List.length (Frm.strips f)):Int)->Frm.slack f=Frm.slack (stockedF f (Int.toNat k) m))
  (o8:smallF f/\0<=k/\k < (↑(List.length (Frm.strips f)):Int)->List.length (Frm.strips f)=List.length (Frm.strips (stockedF f (Int.toNat k) m)))
  (o9:smallF f/\0<=k/\k < (↑(List.length (Frm.strips f)):Int) -> ∀ (i1:Nat),i1 < List.length (Frm.strips (stockedF f (Int.toNat k) m))->Decidable.rec (fun (h:¬i1=Int.toNat k)=>cStrip (stp f i1)) (fun (h:i1=Int.toNat k)=>[iv (Strip.thick (stp f (Int.toNat k))),iv m] ++ []) (instDecidableEqNat i1 (Int.toNat k))=cStrip (stp (stockedF f (Int.toNat k) m) i1))
  (o10:smallF f/\0<=k/\k < (↑(List.length (Frm.strips f)):Int)->List.length (Frm.pieces f)=List.length (Frm.pieces (stockedF f (Int.toNat k) m)))
  (o11:smallF f/\0<=k/\k < (↑(List.length (Frm.strips f)):Int) -> ∀ (i3:Nat),i3 < List.length (Frm.pieces (stockedF f (Int.toNat k) m))->cPiece (pc f i3)=cPiece (pc (stockedF f (Int.toNat k) m) i3))
  (o12:smallF f/\0<=k/\k < (↑(List.length (Frm.strips f)):Int)->List.length (Frm.columns f)=List.length (Frm.columns (stockedF f (Int.toNat k) m)))
  (o13:smallF f/\0<=k/\k < (↑(List.length (Frm.strips f)):Int) -> ∀ (i5:Nat),i5 < List.length (Frm.columns (stockedF f (Int.toNat k) m)) -> [aInts (col f i5)] = [aInts (col (stockedF f (Int.toNat k) m) i5)]) :
  Triple Try.prog 49 (s49 f k m):=by
 refine triple_of Try.func49 rfl Try.call49 T0_ok _ rfl rfl rfl rfl (Nat.le_of_ble_eq_true (by kernel_rfl)) (fun _ _ _ _ h=>h) ?_
 intro hpre C hC _ hE
 obtain ⟨P,w0,E0,av,hA,ro,df⟩:=C
 obtain ⟨rfl,rfl,rfl⟩:=hC
 refine swp_seq ?_
 refine zR [1,2,3,6] [0,8] (Ak 2 tv) ?_
 refine swp_seq ?_
 refine zC ([(1,CallSpec.eq (c49 f k m 24) [true])]) [1,2,6,7] [8,32,24,25,26] (Ak 1 (An (An (An (zr (AV.agg (cFrm f))) tv) (An (t31o (f) (24)) (An hpre.1 (Ak 1 (fun (i0:Env)=>tv))))) (Ak 2 tv))) ?_
 refine swp_seq ?_
 refine zR [1,2,6,7,8] [8,32,88,24,25,26] (Ak 3 (An (An (o0 hpre) (o1 hpre)) (An (An (o2 hpre) tv) (Ak 2 tv)))) ?_
 refine swp_seq ?_
 refine zR [1,6,7,8] [8,32,88,24,25,26] (Ak 3 tv) ?_
 refine swp_seq ?_
 refine zR [6,7] [8,32,24,25,26] (Ak 4 (An (An (o3 hpre) (o4 hpre)) (An (An (o5 hpre) tv) tv))) ?_
 refine swp_seq ?_
 refine zR [6] [8,24,25,26] (Ak 2 tv) ?_
 refine swp_ret ?_
 exact zT [24,25,26] (An (Ak 1 tv) (An (An (An (ci (o6 hpre)) (zr nilN)) (An (An (ci (o7 hpre)) (zr nilN)) (An (An (zr 2) (An (o8 hpre) (fun (i1:Nat)=>(fun (y2:i1 < List.length (Frm.strips (stockedF f (Int.toNat k) m)))=>(o9 hpre i1 y2))))) (An (An (zr 3) (An (o10 hpre) (fun (i3:Nat)=>(fun (y4:i3 < List.length (Frm.pieces (stockedF f (Int.toNat k) m)))=>(o11 hpre i3 y4))))) (An (An (zr 1) (An (o12 hpre) (fun (i5:Nat)=>(fun (y6:i5 < List.length (Frm.columns (stockedF f (Int.toNat k) m)))=>(o13 hpre i5 y6))))) tv))))) (An (zr true) (An (zr true) (zr true)))))
theorem stp_stocked {f:Frm} {k:Nat} (hk:k < f.strips.length) (m:Int) (j:Nat):stp (stockedF f k m) j=if j=k then { stp f k with many:=m } else stp f j:=by
 show (f.strips.set k _).getD j default=_
 rw [List.getD_eq_getElem?_getD,List.getElem?_set]
 by_cases e:k=j
 ·subst e; rw [if_pos rfl,if_pos hk,if_pos rfl]; rfl
 ·rw [if_neg e,if_neg (fun h=>e h.symm),stp,List.getD_eq_getElem?_getD]
theorem t49 (f:Frm) (k m:Int):Triple Try.prog 49 (s49 f k m):=by
 apply w49
 all_goals (rintro ⟨hp,h1,h2⟩)
 case o8=>exact List.length_set.symm
 case o9 =>
  intro i hi
  rw [stp_stocked (by omega)]
  refine rec_ei (fun h => ?_) (fun h => ?_)
  ·rw [if_neg h]
  ·rw [if_pos h]; rfl
 all_goals (first | omega | rfl | (intro i hi; rfl))
theorem w82 
  (o0:60=Frm.length exP)
  (o1:2=Frm.slack exP)
  (o2:∀ (i0:Nat),i0 < List.length (Frm.strips exP)->List.getD [[iv 5,iv 2],[iv 3,iv 2],[iv 18,iv 1]] i0 (TI.za ti65)=cStrip (stp exP i0))
  (o3:∀ (i2:Nat),i2 < List.length (Frm.pieces exP)->List.getD [[iv 20,iv 21,iv 9],[iv 30,iv 30,iv 5],[iv 40,iv 41,iv 7],[iv 12,iv 13,iv 4]] i2 (TI.za ti46)=cPiece (pc exP i2))
  (o4:∀ (i4:Nat),i4 < List.length (Frm.columns exP)->List.getD [[AV.sl 1 2 fun (j:Nat)=>List.getD [[iv 0],[iv 1]] j (TI.za ti3)],[AV.sl 1 2 fun (j:Nat)=>List.getD [[iv 2],[iv 3]] j (TI.za ti3)]] i4 (TI.za ti27) = [aInts (col exP i4)])
  (o5:smallF exP)
  (o6:Frm.length (stockedF exP 1 3)=Frm.length exO)
  (o7:Frm.slack (stockedF exP 1 3)=Frm.slack exO)
  (o8:∀ (i13:Nat),i13 < List.length (Frm.strips exO)->cStrip (stp (stockedF exP 1 3) i13)=cStrip (stp exO i13))
  (o9:∀ (i15:Nat),i15 < List.length (Frm.pieces exO)->cPiece (pc (stockedF exP 1 3) i15)=cPiece (pc exO i15))
  (o10:∀ (i17:Nat),i17 < List.length (Frm.columns exO) -> [aInts (col (stockedF exP 1 3) i17)] = [aInts (col exO i17)]) :
  Triple Try.prog 82 (s82):=by
 refine triple_of Try.func82 rfl Try.call82 T0_ok _ rfl rfl rfl rfl (Nat.le_of_ble_eq_true (by kernel_rfl)) (fun _ _ _ _ h=>h) ?_
 intro _ C hC _ hE
 obtain ⟨P,w0,E0,av,hA,ro,df⟩:=C
 obtain ⟨rfl,rfl,rfl⟩:=hC
 refine swp_seq ?_
 refine zR [0,1] [0,8] (Ak 2 tv) ?_
 refine swp_seq ?_
 refine zR [0,1] [0,8,40,112,136] (Ak 18 tv) ?_
 refine swp_seq ?_
 refine swp_ent (zE (st2:=ASt.mk [(0,AV.ptr 0 []),(1,AV.ptr 8 [])] [(0,OB.cells 26 (cFrm exP)),(8,OB.cells 26 [iv 0,iv 0,nilv,nilv,nilv])] 160) hE [40,112,136] [(0,.same 0),(8,.same 8)] [] [8] (An (An (An (zr (some (Src.same 0))) (zr nilP)) (An (An (zr (some (Src.same 8))) (zr nilP)) tv)) (An (An (An (zr 26) (An (An (An (ci (o0)) (zr nilN)) (An (An (ci (o1)) (zr nilN)) (An (An (zr 2) (An (by decide:3=List.length (Frm.strips exP)) (fun (i0:Nat)=>(fun (y1:i0 < List.length (Frm.strips exP))=>(o2 i0 y1))))) (An (An (zr 3) (An (by decide:4=List.length (Frm.pieces exP)) (fun (i2:Nat)=>(fun (y3:i2 < List.length (Frm.pieces exP))=>(o3 i2 y3))))) (An (An (zr 1) (An (by decide:2=List.length (Frm.columns exP)) (fun (i4:Nat)=>(fun (y5:i4 < List.length (Frm.columns exP))=>(o4 i4 y5))))) tv))))) (zr true))) (An (An (zr (OB.cells 26 [iv 0,iv 0,nilv,nilv,nilv])) (zr true)) tv)) (An (zr true) (zr true))))) ?_
 refine zC ([(2,CallSpec.eq c82 [true,true,true])]) [0,1] [0,8] (Ak 2 (An (An (An (zr (AV.agg (cFrm exP))) (An (zr (iv 1)) (An (zr (iv 3)) tv))) (An (t49 (exP) (1) (3)) (An (An (o5) (An (by decide:Int.ofNat 0<=Int.ofNat 1) (by decide:1 < (↑(List.length (Frm.strips exP)):Int)))) (Ak 1 (fun (i6:Env)=>tv))))) (Ak 2 tv))) ?_
 refine swp_ret ?_
 exact zT [] (An (Ak 2 tv) (An (An (An (An (zr (iv (Frm.length exP))) (zr nilN)) (An (An (zr (iv (Frm.slack exP))) (zr nilN)) (An (An (zr 2) (An (zr (List.length (Frm.strips exP))) (fun (i7:Nat)=>(fun (y8:i7 < List.length (Frm.strips exP))=>(zr (cStrip (stp exP i7))))))) (An (An (zr 3) (An (zr (List.length (Frm.pieces exP))) (fun (i9:Nat)=>(fun (y10:i9 < List.length (Frm.pieces exP))=>(zr (cPiece (pc exP i9))))))) (An (An (zr 1) (An (zr (List.length (Frm.columns exP))) (fun (i11:Nat)=>(fun (y12:i11 < List.length (Frm.columns exP))=>(zr ([aInts (col exP i11)])))))) tv))))) (An (An (An (ci (o6)) (zr nilN)) (An (An (ci (o7)) (zr nilN)) (An (An (zr 2) (An (by decide:List.length (Frm.strips (stockedF exP 1 3))=List.length (Frm.strips exO)) (fun (i13:Nat)=>(fun (y14:i13 < List.length (Frm.strips exO))=>(o8 i13 y14))))) (An (An (zr 3) (An (by decide:List.length (Frm.pieces (stockedF exP 1 3))=List.length (Frm.pieces exO)) (fun (i15:Nat)=>(fun (y16:i15 < List.length (Frm.pieces exO))=>(o9 i15 y16))))) (An (An (zr 1) (An (by decide:List.length (Frm.columns (stockedF exP 1 3))=List.length (Frm.columns exO)) (fun (i17:Nat)=>(fun (y18:i17 < List.length (Frm.columns exO))=>(o10 i17 y18))))) tv))))) tv)) (An (zr true) (An (zr true) (zr true)))))
theorem small_frm {f:Frm} (h:decide (f.strips.length<=64) && decide (f.pieces.length<=64) && decide (f.columns.length<=64) && f.columns.all (fun c=>decide (c.length<=64))=true):smallF f:=by
 simp only [Bool.and_eq_true,decide_eq_true_eq] at h
 refine ⟨h.1.1.1,h.1.1.2,h.1.2,fun i => ?_⟩
 by_cases hi:i < f.columns.length
 ·have:=idx_all [] h.2 hi
  exact of_decide_eq_true this
 ·have:col f i = []:=getD_ge _ _ (by omega)
  rw [this]; exact Nat.zero_le _
theorem small_exP:smallF exP:=small_frm (by decide)
theorem small_exO:smallF exO:=small_frm (by decide)
theorem sl_ext {sz n:Nat} {f g:Nat->List AV} (h:∀ j,f j=g j):AV.sl sz n f = .sl sz n g:=by rw [funext h]
theorem t82:Triple Try.prog 82 s82:=by
 apply w82
 case o2 =>
  intro i hi
  have:i=0 ∨ i=1 ∨ i=2:=by simp [exP] at hi; omega
  rcases this with rfl | rfl | rfl <;> rfl
 case o3 =>
  intro i hi
  have:i=0 ∨ i=1 ∨ i=2 ∨ i=3:=by simp [exP] at hi; omega
  rcases this with rfl | rfl | rfl | rfl <;> rfl
 case o4 =>
  intro i hi
  have:i=0 ∨ i=1:=by simp [exP] at hi; omega
  rcases this with rfl | rfl
  ·exact congrArg (fun z=>[z]) (sl_ext fun j=>by rcases j with _ | _ | j <;> rfl)
  ·exact congrArg (fun z=>[z]) (sl_ext fun j=>by rcases j with _ | _ | j <;> rfl)
 case o5=>exact small_exP
 all_goals (first | rfl | (intro i hi; rfl) | decide)
theorem t82o (f o:Frm):Triple Try.prog 82 (s82o f o):=⟨t82.1,fun h=>by obtain ⟨rfl,rfl⟩:=h; exact t82.2 trivial⟩
theorem w20 (f:Frm) (o:Frm)
  (o0:f=exP/\o=exO->smallF f)
  (o1:f=exP/\o=exO->smallF o)
  (o2:f=exP/\o=exO->smallF f)
  (o3:f=exP/\o=exO -> ∀ (i4:Nat),i4 < List.length [2,0,0]->List.getD [[iv 2],[iv 0],[iv 0]] i4 (TI.za ti3) = [iv (List.getD [2,0,0] i4 0)])
  (o4:f=exP/\o=exO->smallF o)
  (o5:f=exP/\o=exO->smallF o)
  (o6:f=exP/\o=exO->smallF f)
  (o7:f=exP/\o=exO->(bif bif bif bif bif bif bif decide (roomE f 0=0) then decide (stripsE o=0) else false then decide (refuseE f=0) else false then decide (openF o (fitsG o 0 [2,0,0])=0) else false then decide (growE o 0=0) else false then decide (openF f (gapG f 1 3)=0) else false then decide (Span.lo (roomR f 0)=8) && (decide (Span.hi (roomR f 0)=9) && true) else false then decide (stripsN o=4) else false)=true -> ∀ (i53:Nat),i53 < List.length [3]->List.getD [[iv 3]] i53 (TI.za ti3) = [iv (List.getD [3] i53 0)])
  (o8:f=exP/\o=exO->(bif bif bif bif bif bif bif decide (roomE f 0=0) then decide (stripsE o=0) else false then decide (refuseE f=0) else false then decide (openF o (fitsG o 0 [2,0,0])=0) else false then decide (growE o 0=0) else false then decide (openF f (gapG f 1 3)=0) else false then decide (Span.lo (roomR f 0)=8) && (decide (Span.hi (roomR f 0)=9) && true) else false then decide (stripsN o=4) else false)=true->List.length (refuseL f)<=big)
  (o9:f=exP/\o=exO->(bif bif bif bif bif bif bif bif bif bif bif decide (roomE f 0=0) then decide (stripsE o=0) else false then decide (refuseE f=0) else false then decide (openF o (fitsG o 0 [2,0,0])=0) else false then decide (growE o 0=0) else false then decide (openF f (gapG f 1 3)=0) else false then decide (Span.lo (roomR f 0)=8) && (decide (Span.hi (roomR f 0)=9) && true) else false then decide (stripsN o=4) else false then sameInts (refuseL f) [3] else false then decide (fitsP o 0 [2,0,0]=3) else false then decide (growN o 0=22) else false then decide (Span.lo (gapR f 1 3)=19) && (decide (Span.hi (gapR f 1 3)=21) && true) else false)=true) :
  Triple Try.prog 20 (sw20 f o):=by
 refine triple_of Try.func20 rfl Try.call20 T0_ok _ rfl rfl rfl rfl (Nat.le_of_ble_eq_true (by kernel_rfl)) (fun _ _ _ _ h=>h) ?_
 intro hpre C hC _ hE
 obtain ⟨P,w0,E0,av,hA,ro,df⟩:=C
 obtain ⟨rfl,rfl,rfl⟩:=hC
 refine swp_seq ?_
 refine zR [] [] (Ak 1 tv) ?_
 refine swp_seq ?_
 refine zC ([(0,CallSpec.eq (c20a f o) [])]) [1,2] [40,48] (An (Ak 1 (An (t82o (f) (o)) (An (An hpre.1 hpre.2) (Ak 1 (fun (i0:Env)=>tv))))) (Ak 7 tv)) ?_
 refine swp_seq ?_
 refine zC ([(1,CallSpec.eq (s22 f 0) [true,true])]) [1,2,3,4] [40,48,112] (Ak 1 (An (An (An (zr (AV.agg (cFrm f))) (An (zr (iv 0)) tv)) (An (t22 (f) (0)) (An (o0 hpre) (Ak 1 (fun (i1:Env)=>tv))))) (Ak 6 tv))) ?_
 refine swp_seq ?_
 refine zC ([(1,CallSpec.eq (s59 o) [true])]) [1,2,3,4,5,6] [40,48,112] (Ak 1 (An (An (An (zr (AV.agg (cFrm o))) tv) (An (t59 (o)) (An (o1 hpre) (Ak 1 (fun (i2:Env)=>tv))))) (Ak 5 tv))) ?_
 refine swp_seq ?_
 refine zC ([(1,CallSpec.eq (s42 f) [true])]) [1,2,3,4,5,6,7,8] [40,48,112] (Ak 1 (An (An (An (zr (AV.agg (cFrm f))) tv) (An (t42 (f)) (An (o2 hpre) (Ak 1 (fun (i3:Env)=>tv))))) (Ak 5 tv))) ?_
 refine swp_seq ?_
 refine zC ([(2,CallSpec.eq (c20b f o) [true,true,false])]) [1,2,3,4,5,6,7,8,9,10] [40,48,112] (Ak 2 (An (An (An (zr (AV.agg (cFrm o))) (An (zr (iv 0)) (An (An (zr 1) (An (zr 3) (fun (i4:Nat)=>(fun (y5:i4 < List.length [2,0,0])=>(o3 hpre i4 y5))))) tv))) (An (t36 (o) (0) ([2,0,0])) (An (An (o4 hpre) (by decide:List.length [2,0,0]<=64)) (Ak 1 (fun (i6:Env)=>tv))))) (Ak 5 tv))) ?_
 refine swp_seq ?_
 refine zC ([(1,CallSpec.eq (s26 o 0) [true,true])]) [1,3,4,5,6,7,8,9,10,11,12] [40,112] (Ak 1 (An (An (An (zr (AV.agg (cFrm o))) (An (zr (iv 0)) tv)) (An (t26 (o) (0)) (An (o5 hpre) (Ak 1 (fun (i7:Env)=>tv))))) (Ak 5 tv))) ?_
 refine swp_seq ?_
 refine zC ([(1,CallSpec.eq (s48 f 1 3) [true,true,true])]) [3,4,5,6,7,8,9,10,11,12,13,14] [112,408] (Ak 1 (An (An (An (zr (AV.agg (cFrm f))) (An (zr (iv 1)) (An (zr (iv 3)) tv))) (An (t48 (f) (1) (3)) (An (o6 hpre) (Ak 1 (fun (i8:Env)=>tv))))) (Ak 6 tv))) ?_
 refine swp_seq ?_
 refine zC ([(34,CallSpec.eq (c20c f o) [false,false])]) [0] [] (Ak 3 (An (fun (y9:decide (roomE f 0=0)=true)=>(An (Ak 1 tv) tv)) (An (fun (y10:decide (roomE f 0=0)=true)=>(An (An (fun (y11:decide (roomE f 0=0)=true)=>y10) (Ak 1 tv)) tv)) (An (An (fun (y12:decide (roomE f 0=0)=true)=>y12) (fun (y13:decide (roomE f 0=0)=false)=>tv)) (Ak 1 (An (fun (y14:(bif decide (roomE f 0=0) then decide (stripsE o=0) else false)=true)=>(An (Ak 1 tv) tv)) (An (fun (y15:(bif decide (roomE f 0=0) then decide (stripsE o=0) else false)=true)=>(An (An (fun (y16:(bif decide (roomE f 0=0) then decide (stripsE o=0) else false)=true)=>y15) (Ak 1 tv)) tv)) (An (An (fun (y17:(bif decide (roomE f 0=0) then decide (stripsE o=0) else false)=true)=>y17) (fun (y18:(bif decide (roomE f 0=0) then decide (stripsE o=0) else false)=false)=>tv)) (Ak 1 (An (fun (y19:(bif bif decide (roomE f 0=0) then decide (stripsE o=0) else false then decide (refuseE f=0) else false)=true)=>(An (Ak 1 tv) tv)) (An (fun (y20:(bif bif decide (roomE f 0=0) then decide (stripsE o=0) else false then decide (refuseE f=0) else false)=true)=>(An (An (fun (y21:(bif bif decide (roomE f 0=0) then decide (stripsE o=0) else false then decide (refuseE f=0) else false)=true)=>y20) (Ak 1 tv)) tv)) (An (An (fun (y22:(bif bif decide (roomE f 0=0) then decide (stripsE o=0) else false then decide (refuseE f=0) else false)=true)=>y22) (fun (y23:(bif bif decide (roomE f 0=0) then decide (stripsE o=0) else false then decide (refuseE f=0) else false)=false)=>tv)) (Ak 1 (An (fun (y24:(bif bif bif decide (roomE f 0=0) then decide (stripsE o=0) else false then decide (refuseE f=0) else false then decide (openF o (fitsG o 0 [2,0,0])=0) else false)=true)=>(An (Ak 1 tv) tv)) (An (fun (y25:(bif bif bif decide (roomE f 0=0) then decide (stripsE o=0) else false then decide (refuseE f=0) else false then decide (openF o (fitsG o 0 [2,0,0])=0) else false)=true)=>(An (An (fun (y26:(bif bif bif decide (roomE f 0=0) then decide (stripsE o=0) else false then decide (refuseE f=0) else false then decide (openF o (fitsG o 0 [2,0,0])=0) else false)=true)=>y25) (Ak 1 tv)) tv)) (An (An (fun (y27:(bif bif bif decide (roomE f 0=0) then decide (stripsE o=0) else false then decide (refuseE f=0) else false then decide (openF o (fitsG o 0 [2,0,0])=0) else false)=true)=>y27) (fun (y28:(bif bif bif decide (roomE f 0=0) then decide (stripsE o=0) else false then decide (refuseE f=0) else false then decide (openF o (fitsG o 0 [2,0,0])=0) else false)=false)=>tv)) (Ak 1 (An (fun (y29:(bif bif bif bif decide (roomE f 0=0) then decide (stripsE o=0) else false then decide (refuseE f=0) else false then decide (openF o (fitsG o 0 [2,0,0])=0) else false then decide (growE o 0=0) else false)=true)=>(An (Ak 1 tv) tv)) (An (fun (y30:(bif bif bif bif decide (roomE f 0=0) then decide (stripsE o=0) else false then decide (refuseE f=0) else false then decide (openF o (fitsG o 0 [2,0,0])=0) else false then decide (growE o 0=0) else false)=true)=>(An (An (fun (y31:(bif bif bif bif decide (roomE f 0=0) then decide (stripsE o=0) else false then decide (refuseE f=0) else false then decide (openF o (fitsG o 0 [2,0,0])=0) else false then decide (growE o 0=0) else false)=true)=>y30) (Ak 1 tv)) tv)) (An (An (fun (y32:(bif bif bif bif decide (roomE f 0=0) then decide (stripsE o=0) else false then decide (refuseE f=0) else false then decide (openF o (fitsG o 0 [2,0,0])=0) else false then decide (growE o 0=0) else false)=true)=>y32) (fun (y33:(bif bif bif bif decide (roomE f 0=0) then decide (stripsE o=0) else false then decide (refuseE f=0) else false then decide (openF o (fitsG o 0 [2,0,0])=0) else false then decide (growE o 0=0) else false)=false)=>tv)) (Ak 1 (An (fun (y34:(bif bif bif bif bif decide (roomE f 0=0) then decide (stripsE o=0) else false then decide (refuseE f=0) else false then decide (openF o (fitsG o 0 [2,0,0])=0) else false then decide (growE o 0=0) else false then decide (openF f (gapG f 1 3)=0) else false)=true)=>(An (Ak 1 tv) tv)) (An (fun (y35:(bif bif bif bif bif decide (roomE f 0=0) then decide (stripsE o=0) else false then decide (refuseE f=0) else false then decide (openF o (fitsG o 0 [2,0,0])=0) else false then decide (growE o 0=0) else false then decide (openF f (gapG f 1 3)=0) else false)=true)=>(An (Ak 2 tv) tv)) (An (fun (y36:(bif bif bif bif bif decide (roomE f 0=0) then decide (stripsE o=0) else false then decide (refuseE f=0) else false then decide (openF o (fitsG o 0 [2,0,0])=0) else false then decide (growE o 0=0) else false then decide (openF f (gapG f 1 3)=0) else false)=true)=>(An (An (fun (y37:(bif bif bif bif bif decide (roomE f 0=0) then decide (stripsE o=0) else false then decide (refuseE f=0) else false then decide (openF o (fitsG o 0 [2,0,0])=0) else false then decide (growE o 0=0) else false then decide (openF f (gapG f 1 3)=0) else false)=true)=>y36) (An (fun (y38:(bif bif bif bif bif decide (roomE f 0=0) then decide (stripsE o=0) else false then decide (refuseE f=0) else false then decide (openF o (fitsG o 0 [2,0,0])=0) else false then decide (growE o 0=0) else false then decide (openF f (gapG f 1 3)=0) else false)=true)=>y36) tv)) tv)) (An (An (fun (y39:(bif bif bif bif bif decide (roomE f 0=0) then decide (stripsE o=0) else false then decide (refuseE f=0) else false then decide (openF o (fitsG o 0 [2,0,0])=0) else false then decide (growE o 0=0) else false then decide (openF f (gapG f 1 3)=0) else false)=true)=>y39) (fun (y40:(bif bif bif bif bif decide (roomE f 0=0) then decide (stripsE o=0) else false then decide (refuseE f=0) else false then decide (openF o (fitsG o 0 [2,0,0])=0) else false then decide (growE o 0=0) else false then decide (openF f (gapG f 1 3)=0) else false)=false)=>tv)) (Ak 1 (An (fun (y41:(bif bif bif bif bif bif decide (roomE f 0=0) then decide (stripsE o=0) else false then decide (refuseE f=0) else false then decide (openF o (fitsG o 0 [2,0,0])=0) else false then decide (growE o 0=0) else false then decide (openF f (gapG f 1 3)=0) else false then decide (Span.lo (roomR f 0)=8) && (decide (Span.hi (roomR f 0)=9) && true) else false)=true)=>(An (Ak 1 tv) tv)) (An (fun (y42:(bif bif bif bif bif bif decide (roomE f 0=0) then decide (stripsE o=0) else false then decide (refuseE f=0) else false then decide (openF o (fitsG o 0 [2,0,0])=0) else false then decide (growE o 0=0) else false then decide (openF f (gapG f 1 3)=0) else false then decide (Span.lo (roomR f 0)=8) && (decide (Span.hi (roomR f 0)=9) && true) else false)=true)=>(An (An (fun (y43:(bif bif bif bif bif bif decide (roomE f 0=0) then decide (stripsE o=0) else false then decide (refuseE f=0) else false then decide (openF o (fitsG o 0 [2,0,0])=0) else false then decide (growE o 0=0) else false then decide (openF f (gapG f 1 3)=0) else false then decide (Span.lo (roomR f 0)=8) && (decide (Span.hi (roomR f 0)=9) && true) else false)=true)=>y42) (Ak 1 tv)) tv)) (An (An (fun (y44:(bif bif bif bif bif bif decide (roomE f 0=0) then decide (stripsE o=0) else false then decide (refuseE f=0) else false then decide (openF o (fitsG o 0 [2,0,0])=0) else false then decide (growE o 0=0) else false then decide (openF f (gapG f 1 3)=0) else false then decide (Span.lo (roomR f 0)=8) && (decide (Span.hi (roomR f 0)=9) && true) else false)=true)=>y44) (fun (y45:(bif bif bif bif bif bif decide (roomE f 0=0) then decide (stripsE o=0) else false then decide (refuseE f=0) else false then decide (openF o (fitsG o 0 [2,0,0])=0) else false then decide (growE o 0=0) else false then decide (openF f (gapG f 1 3)=0) else false then decide (Span.lo (roomR f 0)=8) && (decide (Span.hi (roomR f 0)=9) && true) else false)=false)=>tv)) (Ak 1 (An (fun (y46:(bif bif bif bif bif bif bif decide (roomE f 0=0) then decide (stripsE o=0) else false then decide (refuseE f=0) else false then decide (openF o (fitsG o 0 [2,0,0])=0) else false then decide (growE o 0=0) else false then decide (openF f (gapG f 1 3)=0) else false then decide (Span.lo (roomR f 0)=8) && (decide (Span.hi (roomR f 0)=9) && true) else false then decide (stripsN o=4) else false)=true)=>(An (Ak 1 tv) tv)) (An (fun (y47:(bif bif bif bif bif bif bif decide (roomE f 0=0) then decide (stripsE o=0) else false then decide (refuseE f=0) else false then decide (openF o (fitsG o 0 [2,0,0])=0) else false then decide (growE o 0=0) else false then decide (openF f (gapG f 1 3)=0) else false then decide (Span.lo (roomR f 0)=8) && (decide (Span.hi (roomR f 0)=9) && true) else false then decide (stripsN o=4) else false)=true)=>(An (Ak 1 tv) tv)) (An (fun (y48:(bif bif bif bif bif bif bif decide (roomE f 0=0) then decide (stripsE o=0) else false then decide (refuseE f=0) else false then decide (openF o (fitsG o 0 [2,0,0])=0) else false then decide (growE o 0=0) else false then decide (openF f (gapG f 1 3)=0) else false then decide (Span.lo (roomR f 0)=8) && (decide (Span.hi (roomR f 0)=9) && true) else false then decide (stripsN o=4) else false)=true)=>(An (Ak 1 (An (fun (y49:(bif bif bif bif bif bif bif decide (roomE f 0=0) then decide (stripsE o=0) else false then decide (refuseE f=0) else false then decide (openF o (fitsG o 0 [2,0,0])=0) else false then decide (growE o 0=0) else false then decide (openF f (gapG f 1 3)=0) else false then decide (Span.lo (roomR f 0)=8) && (decide (Span.hi (roomR f 0)=9) && true) else false then decide (stripsN o=4) else false)=true)=>y48) (An (fun (y50:(bif bif bif bif bif bif bif decide (roomE f 0=0) then decide (stripsE o=0) else false then decide (refuseE f=0) else false then decide (openF o (fitsG o 0 [2,0,0])=0) else false then decide (growE o 0=0) else false then decide (openF f (gapG f 1 3)=0) else false then decide (Span.lo (roomR f 0)=8) && (decide (Span.hi (roomR f 0)=9) && true) else false then decide (stripsN o=4) else false)=true)=>y48) tv))) (An (An (An (zr 1) (An (zr (List.length (refuseL f))) (fun (i51:Nat)=>(fun (y52:i51 < List.length (refuseL f))=>(zr ([iv (List.getD (refuseL f) i51 0)])))))) (An (An (zr 1) (An (zr 1) (fun (i53:Nat)=>(fun (y54:i53 < List.length [3])=>(o7 hpre y48 i53 y54))))) tv)) (An (t40 (refuseL f) ([3])) (An (o8 hpre y48) (Ak 1 (fun (i55:Env)=>tv))))))) (An (An (fun (y56:(bif bif bif bif bif bif bif decide (roomE f 0=0) then decide (stripsE o=0) else false then decide (refuseE f=0) else false then decide (openF o (fitsG o 0 [2,0,0])=0) else false then decide (growE o 0=0) else false then decide (openF f (gapG f 1 3)=0) else false then decide (Span.lo (roomR f 0)=8) && (decide (Span.hi (roomR f 0)=9) && true) else false then decide (stripsN o=4) else false)=true)=>y56) (fun (y57:(bif bif bif bif bif bif bif decide (roomE f 0=0) then decide (stripsE o=0) else false then decide (refuseE f=0) else false then decide (openF o (fitsG o 0 [2,0,0])=0) else false then decide (growE o 0=0) else false then decide (openF f (gapG f 1 3)=0) else false then decide (Span.lo (roomR f 0)=8) && (decide (Span.hi (roomR f 0)=9) && true) else false then decide (stripsN o=4) else false)=false)=>tv)) (Ak 1 (An (fun (y58:(bif bif bif bif bif bif bif bif decide (roomE f 0=0) then decide (stripsE o=0) else false then decide (refuseE f=0) else false then decide (openF o (fitsG o 0 [2,0,0])=0) else false then decide (growE o 0=0) else false then decide (openF f (gapG f 1 3)=0) else false then decide (Span.lo (roomR f 0)=8) && (decide (Span.hi (roomR f 0)=9) && true) else false then decide (stripsN o=4) else false then sameInts (refuseL f) [3] else false)=true)=>(An (Ak 1 tv) tv)) (An (fun (y59:(bif bif bif bif bif bif bif bif decide (roomE f 0=0) then decide (stripsE o=0) else false then decide (refuseE f=0) else false then decide (openF o (fitsG o 0 [2,0,0])=0) else false then decide (growE o 0=0) else false then decide (openF f (gapG f 1 3)=0) else false then decide (Span.lo (roomR f 0)=8) && (decide (Span.hi (roomR f 0)=9) && true) else false then decide (stripsN o=4) else false then sameInts (refuseL f) [3] else false)=true)=>(An (An (fun (y60:(bif bif bif bif bif bif bif bif decide (roomE f 0=0) then decide (stripsE o=0) else false then decide (refuseE f=0) else false then decide (openF o (fitsG o 0 [2,0,0])=0) else false then decide (growE o 0=0) else false then decide (openF f (gapG f 1 3)=0) else false then decide (Span.lo (roomR f 0)=8) && (decide (Span.hi (roomR f 0)=9) && true) else false then decide (stripsN o=4) else false then sameInts (refuseL f) [3] else false)=true)=>y59) (Ak 1 tv)) tv)) (An (An (fun (y61:(bif bif bif bif bif bif bif bif decide (roomE f 0=0) then decide (stripsE o=0) else false then decide (refuseE f=0) else false then decide (openF o (fitsG o 0 [2,0,0])=0) else false then decide (growE o 0=0) else false then decide (openF f (gapG f 1 3)=0) else false then decide (Span.lo (roomR f 0)=8) && (decide (Span.hi (roomR f 0)=9) && true) else false then decide (stripsN o=4) else false then sameInts (refuseL f) [3] else false)=true)=>y61) (fun (y62:(bif bif bif bif bif bif bif bif decide (roomE f 0=0) then decide (stripsE o=0) else false then decide (refuseE f=0) else false then decide (openF o (fitsG o 0 [2,0,0])=0) else false then decide (growE o 0=0) else false then decide (openF f (gapG f 1 3)=0) else false then decide (Span.lo (roomR f 0)=8) && (decide (Span.hi (roomR f 0)=9) && true) else false then decide (stripsN o=4) else false then sameInts (refuseL f) [3] else false)=false)=>tv)) (Ak 1 (An (fun (y63:(bif bif bif bif bif bif bif bif bif decide (roomE f 0=0) then decide (stripsE o=0) else false then decide (refuseE f=0) else false then decide (openF o (fitsG o 0 [2,0,0])=0) else false then decide (growE o 0=0) else false then decide (openF f (gapG f 1 3)=0) else false then decide (Span.lo (roomR f 0)=8) && (decide (Span.hi (roomR f 0)=9) && true) else false then decide (stripsN o=4) else false then sameInts (refuseL f) [3] else false then decide (fitsP o 0 [2,0,0]=3) else false)=true)=>(An (Ak 1 tv) tv)) (An (fun (y64:(bif bif bif bif bif bif bif bif bif decide (roomE f 0=0) then decide (stripsE o=0) else false then decide (refuseE f=0) else false then decide (openF o (fitsG o 0 [2,0,0])=0) else false then decide (growE o 0=0) else false then decide (openF f (gapG f 1 3)=0) else false then decide (Span.lo (roomR f 0)=8) && (decide (Span.hi (roomR f 0)=9) && true) else false then decide (stripsN o=4) else false then sameInts (refuseL f) [3] else false then decide (fitsP o 0 [2,0,0]=3) else false)=true)=>(An (An (fun (y65:(bif bif bif bif bif bif bif bif bif decide (roomE f 0=0) then decide (stripsE o=0) else false then decide (refuseE f=0) else false then decide (openF o (fitsG o 0 [2,0,0])=0) else false then decide (growE o 0=0) else false then decide (openF f (gapG f 1 3)=0) else false then decide (Span.lo (roomR f 0)=8) && (decide (Span.hi (roomR f 0)=9) && true) else false then decide (stripsN o=4) else false then sameInts (refuseL f) [3] else false then decide (fitsP o 0 [2,0,0]=3) else false)=true)=>y64) (Ak 1 tv)) tv)) (An (An (fun (y66:(bif bif bif bif bif bif bif bif bif decide (roomE f 0=0) then decide (stripsE o=0) else false then decide (refuseE f=0) else false then decide (openF o (fitsG o 0 [2,0,0])=0) else false then decide (growE o 0=0) else false then decide (openF f (gapG f 1 3)=0) else false then decide (Span.lo (roomR f 0)=8) && (decide (Span.hi (roomR f 0)=9) && true) else false then decide (stripsN o=4) else false then sameInts (refuseL f) [3] else false then decide (fitsP o 0 [2,0,0]=3) else false)=true)=>y66) (fun (y67:(bif bif bif bif bif bif bif bif bif decide (roomE f 0=0) then decide (stripsE o=0) else false then decide (refuseE f=0) else false then decide (openF o (fitsG o 0 [2,0,0])=0) else false then decide (growE o 0=0) else false then decide (openF f (gapG f 1 3)=0) else false then decide (Span.lo (roomR f 0)=8) && (decide (Span.hi (roomR f 0)=9) && true) else false then decide (stripsN o=4) else false then sameInts (refuseL f) [3] else false then decide (fitsP o 0 [2,0,0]=3) else false)=false)=>tv)) (Ak 1 (An (fun (y68:(bif bif bif bif bif bif bif bif bif bif decide (roomE f 0=0) then decide (stripsE o=0) else false then decide (refuseE f=0) else false then decide (openF o (fitsG o 0 [2,0,0])=0) else false then decide (growE o 0=0) else false then decide (openF f (gapG f 1 3)=0) else false then decide (Span.lo (roomR f 0)=8) && (decide (Span.hi (roomR f 0)=9) && true) else false then decide (stripsN o=4) else false then sameInts (refuseL f) [3] else false then decide (fitsP o 0 [2,0,0]=3) else false then decide (growN o 0=22) else false)=true)=>(An (Ak 1 tv) tv)) (An (fun (y69:(bif bif bif bif bif bif bif bif bif bif decide (roomE f 0=0) then decide (stripsE o=0) else false then decide (refuseE f=0) else false then decide (openF o (fitsG o 0 [2,0,0])=0) else false then decide (growE o 0=0) else false then decide (openF f (gapG f 1 3)=0) else false then decide (Span.lo (roomR f 0)=8) && (decide (Span.hi (roomR f 0)=9) && true) else false then decide (stripsN o=4) else false then sameInts (refuseL f) [3] else false then decide (fitsP o 0 [2,0,0]=3) else false then decide (growN o 0=22) else false)=true)=>(An (Ak 2 tv) tv)) (An (fun (y70:(bif bif bif bif bif bif bif bif bif bif decide (roomE f 0=0) then decide (stripsE o=0) else false then decide (refuseE f=0) else false then decide (openF o (fitsG o 0 [2,0,0])=0) else false then decide (growE o 0=0) else false then decide (openF f (gapG f 1 3)=0) else false then decide (Span.lo (roomR f 0)=8) && (decide (Span.hi (roomR f 0)=9) && true) else false then decide (stripsN o=4) else false then sameInts (refuseL f) [3] else false then decide (fitsP o 0 [2,0,0]=3) else false then decide (growN o 0=22) else false)=true)=>(An (An (fun (y71:(bif bif bif bif bif bif bif bif bif bif decide (roomE f 0=0) then decide (stripsE o=0) else false then decide (refuseE f=0) else false then decide (openF o (fitsG o 0 [2,0,0])=0) else false then decide (growE o 0=0) else false then decide (openF f (gapG f 1 3)=0) else false then decide (Span.lo (roomR f 0)=8) && (decide (Span.hi (roomR f 0)=9) && true) else false then decide (stripsN o=4) else false then sameInts (refuseL f) [3] else false then decide (fitsP o 0 [2,0,0]=3) else false then decide (growN o 0=22) else false)=true)=>y70) (An (fun (y72:(bif bif bif bif bif bif bif bif bif bif decide (roomE f 0=0) then decide (stripsE o=0) else false then decide (refuseE f=0) else false then decide (openF o (fitsG o 0 [2,0,0])=0) else false then decide (growE o 0=0) else false then decide (openF f (gapG f 1 3)=0) else false then decide (Span.lo (roomR f 0)=8) && (decide (Span.hi (roomR f 0)=9) && true) else false then decide (stripsN o=4) else false then sameInts (refuseL f) [3] else false then decide (fitsP o 0 [2,0,0]=3) else false then decide (growN o 0=22) else false)=true)=>y70) tv)) tv)) (An (An (fun (y73:(bif bif bif bif bif bif bif bif bif bif decide (roomE f 0=0) then decide (stripsE o=0) else false then decide (refuseE f=0) else false then decide (openF o (fitsG o 0 [2,0,0])=0) else false then decide (growE o 0=0) else false then decide (openF f (gapG f 1 3)=0) else false then decide (Span.lo (roomR f 0)=8) && (decide (Span.hi (roomR f 0)=9) && true) else false then decide (stripsN o=4) else false then sameInts (refuseL f) [3] else false then decide (fitsP o 0 [2,0,0]=3) else false then decide (growN o 0=22) else false)=true)=>y73) (fun (y74:(bif bif bif bif bif bif bif bif bif bif decide (roomE f 0=0) then decide (stripsE o=0) else false then decide (refuseE f=0) else false then decide (openF o (fitsG o 0 [2,0,0])=0) else false then decide (growE o 0=0) else false then decide (openF f (gapG f 1 3)=0) else false then decide (Span.lo (roomR f 0)=8) && (decide (Span.hi (roomR f 0)=9) && true) else false then decide (stripsN o=4) else false then sameInts (refuseL f) [3] else false then decide (fitsP o 0 [2,0,0]=3) else false then decide (growN o 0=22) else false)=false)=>tv)) (Ak 1 tv)))))))))))))))))))))))))))))))))))))))))))))))) ?_
 refine swp_ret ?_
 exact zT [] (An (Ak 1 tv) (An (An (cb (o9 hpre)) (zr nilN)) (An (zr true) (An (zr true) (zr true)))))
set_option maxRecDepth 4000
theorem x_room:roomR exP 0=⟨8,9⟩/\roomE exP 0=0:=by decide +kernel
theorem x_strips:stripsN exO=4/\stripsE exO=0:=by decide +kernel
theorem x_ref:refuseL exP = [3]/\refuseE exP=0:=by decide +kernel
theorem x_fits:fitsP exO 0 [2,0,0]=3/\openF exO (fitsG exO 0 [2,0,0])=0:=by decide +kernel
theorem x_grow:growN exO 0=22/\growE exO 0=0:=by decide +kernel
theorem x_gap:gapR exP 1 3=⟨19,21⟩/\openF exP (gapG exP 1 3)=0:=by decide +kernel
theorem tw20 (f o:Frm):Triple Try.prog 20 (sw20 f o):=by
 apply w20
 all_goals (rintro ⟨rfl,rfl⟩)
 case o3 =>
  intro i hi
  have:i=0 ∨ i=1 ∨ i=2:=by simp at hi; omega
  rcases this with rfl | rfl | rfl <;> rfl
 case o7 =>
  intro _ i hi
  have:i=0:=by simpa using hi
  subst this; rfl
 case o8=>intro _; decide
 case o9 =>
  obtain ⟨a1,a2⟩:=x_room
  obtain ⟨b1,b2⟩:=x_strips
  obtain ⟨c1,c2⟩:=x_ref
  obtain ⟨d1,d2⟩:=x_fits
  obtain ⟨e1,e2⟩:=x_grow
  obtain ⟨g1,g2⟩:=x_gap
  rw [a1,a2,b1,b2,c1,c2,d1,d2,e1,e2,g1,g2]; (repeat intro _); rfl
 all_goals (first | exact small_exP | exact small_exO | skip)
theorem t20:Triple Try.prog 20 s20:=⟨(tw20 exP exO).1,fun _=>(tw20 exP exO).2 ⟨rfl,rfl⟩⟩
theorem sound_small {f:Frm} (h:Sound f):smallF f:=by
 have h1:=h.strips
 have h2:=h.pieces
 have h3:=h.columns
 exact ⟨by omega,by omega,by omega,fun i=>by have:=h.colLen i; omega⟩
theorem ready_ok {f:Frm} (h:readyF f=true):okFrm f=true/\Sound f/\smallF f:=by
 unfold readyF at h
 rw [Bool.and_eq_true] at h
 have:=sound_of h.2
 exact ⟨h.2,this,sound_small this⟩
end Go.Ab
namespace Go.Sh
open Go.Ab
variable {f:Frm}
end Go.Sh
namespace Go.Sh
open Go.Ab
variable {f:Frm}
theorem stp_set {k:Nat} (hk:k < f.strips.length) (s:Strip) (i:Nat):(f.strips.set k s).getD i default=if i=k then s else stp f i:=by
 rw [List.getD_eq_getElem?_getD,List.getElem?_set]
 by_cases e:k=i
 ·subst e; rw [if_pos rfl,if_pos hk,if_pos rfl]; rfl
 ·rw [if_neg e,if_neg (fun h=>e h.symm),stp,List.getD_eq_getElem?_getD]
theorem good_strip {k:Nat} (hk:k < f.strips.length) {m:Int} (hm:(stp f k).many<=m):AsGood f { f with strips:=f.strips.set k { stp f k with many:=m } }:=by
 have e:∀ i,stp { f with strips:=f.strips.set k { stp f k with many:=m } } i=if i=k then { stp f k with many:=m } else stp f i:=stp_set hk _
 refine ⟨List.length_set,fun i => ?_,fun i _ => ?_,rfl,rfl,Int.le_refl _,rfl,fun i=>⟨Int.le_refl _,Int.le_refl _⟩,fun i=>rfl⟩
 ·rw [e]; split
  ·rename_i h; rw [h]
  ·rfl
 ·rw [e]; split
  ·rename_i h; rw [h]; exact hm
  ·exact Int.le_refl _
theorem good_slack {s:Int} (h:f.slack<=s):AsGood f { f with slack:=s } :=
 ⟨rfl,fun _=>rfl,fun _ _=>Int.le_refl _,rfl,rfl,h,rfl,fun _=>⟨Int.le_refl _,Int.le_refl _⟩,fun _=>rfl⟩
end Go.Sh
namespace Go.Sh
end Go.Sh
namespace Go.Ab
open Go Go.RowKit Go.Proofs Go.Sh Go.En
abbrev hC (f:Frm) (c:Int):Span:=highP f (col f c.toNat)
def s27 (f:Frm):CallSpec:={ args:=[vFrm f],res := .tup [iv (stripsV f),bv true],pre:=okFrm f=true }
def s50 (f:Frm):CallSpec:={ args:=[vFrm f],res := .tup [iv (lostV f),bv true],pre:=okFrm f=true }
def s47 (f o:Frm):CallSpec:={ args:=[vFrm f,vFrm o],res:=bv (decide (stripsV f<=stripsV o) && decide (lostV f<=lostV o)),pre:=okFrm f=true/\okFrm o=true }
end Go.Ab
namespace Go.Ab
open Go Go.RowKit Go.Proofs Go.Sh Go.En
theorem w27 (f:Frm)
  (o0:okFrm f=true->smallF f)
  (o1:okFrm f=true->decide (stripsE f=3)=true->100000=stripsV f)
  (o2:okFrm f=true->decide (stripsE f=3)=false->stripsN f=stripsV f)
  (o3:okFrm f=true->decide (stripsE f=3)=false->(bif bif decide (stripsE f=0) then decide (0<=stripsN f) else false then decide (stripsN f < 100000) else false)=true) :
  Triple Try.prog 27 (s27 f):=by
 refine triple_of Try.func27 rfl Try.call27 T0_ok _ rfl rfl rfl rfl (Nat.le_of_ble_eq_true (by kernel_rfl)) (fun _ _ _ _ h=>h) ?_
 intro hpre C hC _ hE
 obtain ⟨P,w0,E0,av,hA,ro,df⟩:=C
 obtain ⟨rfl,rfl,rfl⟩:=hC
 refine swp_seq ?_
 refine zR [1] [0] (Ak 3 tv) ?_
 refine swp_seq ?_
 refine zC ([(1,CallSpec.eq (s59 f) [true])]) [4,5] [] (Ak 1 (An (An (An (zr (AV.agg (cFrm f))) tv) (An (t59 (f)) (An (o0 hpre) (Ak 1 (fun (i0:Env)=>tv))))) (Ak 5 tv))) ?_
 refine swp_seq ?_
 refine swp_seq ?_
 refine zR [4,5,12] [] (Ak 2 tv) ?_
 refine zI (decide (stripsE f=3)) (fun y1 => ?_) (fun y1 => ?_)
 ·refine swp_seq ?_
  refine zR [2,3] [] (Ak 2 tv) ?_
  refine swp_ret ?_
  exact zT [] (An (Ak 2 tv) (An (An (An (ci (o1 hpre y1)) (zr nilN)) (An (An (zr (bv true)) (zr nilN)) tv)) (An (zr true) (An (zr true) (zr true)))))
 ·refine swp_skip ?_
  refine swp_seq ?_
  refine zR [2,3] [] (Ak 4 (An (fun (y2:decide (stripsE f=0)=true)=>(An (Ak 1 tv) tv)) (An (fun (y3:decide (stripsE f=0)=true)=>(An (An (fun (y4:decide (stripsE f=0)=true)=>y3) (Ak 1 tv)) tv)) (An (An (fun (y5:decide (stripsE f=0)=true)=>y5) (fun (y6:decide (stripsE f=0)=false)=>tv)) (Ak 1 (An (fun (y7:(bif decide (stripsE f=0) then decide (0<=stripsN f) else false)=true)=>(An (Ak 1 tv) tv)) (An (fun (y8:(bif decide (stripsE f=0) then decide (0<=stripsN f) else false)=true)=>(An (An (fun (y9:(bif decide (stripsE f=0) then decide (0<=stripsN f) else false)=true)=>y8) (Ak 1 tv)) tv)) (An (An (fun (y10:(bif decide (stripsE f=0) then decide (0<=stripsN f) else false)=true)=>y10) (fun (y11:(bif decide (stripsE f=0) then decide (0<=stripsN f) else false)=false)=>tv)) (Ak 2 tv))))))))) ?_
  refine swp_ret ?_
  exact zT [] (An (Ak 2 tv) (An (An (An (ci (o2 hpre y1)) (zr nilN)) (An (An (cb (o3 hpre y1)) (zr nilN)) tv)) (An (zr true) (An (zr true) (zr true)))))
theorem t27 (f:Frm):Triple Try.prog 27 (s27 f):=by
 apply w27
 all_goals (intro h; have hs:=sound_of h; have hw:=whole_in (w:=0) hs; have hcl:=hs.columns)
 case o0=>exact sound_small hs
 all_goals (have ee:stripsE f=if (wholeP f 0).isSome then 0 else 3:=by unfold stripsE; rw [if_pos h])
 all_goals (have en:stripsN f=layM (wholeP f 0):=by unfold stripsN; rw [if_pos h])
 all_goals (rw [ee]; (try rw [en]))
 case o1 =>
  unfold stripsV
  cases e:wholeP f 0 with
  | none=>intro _; rfl
  | some x=>intro h; exact absurd h (by simp)
 case o2 =>
  unfold stripsV
  cases e:wholeP f 0 with
  | none=>intro h; exact absurd h (by simp)
  | some x=>intro _; rfl
 case o3 =>
  cases e:wholeP f 0 with
  | none=>intro h; exact absurd h (by simp)
  | some x =>
   intro _
   have:=hw x e
   show (bif bif true then decide (0<=x.2) else false then decide (x.2 < 100000) else false)=true
   rw [decide_eq_true (show 0<=x.2 by omega),decide_eq_true (show x.2 < 100000 by omega)]; rfl
theorem w50 (f:Frm)
  (o0:okFrm f=true->smallF f)
  (o1:okFrm f=true->decide (refuseE f=3)=true->100000=lostV f)
  (o2:okFrm f=true->decide (refuseE f=3)=false->lostN f=lostV f)
  (o3:okFrm f=true->decide (refuseE f=3)=false->(bif bif decide (refuseE f=0) then decide (0<=lostN f) else false then decide (lostN f < 100000) else false)=true) :
  Triple Try.prog 50 (s50 f):=by
 refine triple_of Try.func50 rfl Try.call50 T0_ok _ rfl rfl rfl rfl (Nat.le_of_ble_eq_true (by kernel_rfl)) (fun _ _ _ _ h=>h) ?_
 intro hpre C hC _ hE
 obtain ⟨P,w0,E0,av,hA,ro,df⟩:=C
 obtain ⟨rfl,rfl,rfl⟩:=hC
 refine swp_seq ?_
 refine zR [1] [0] (Ak 3 tv) ?_
 refine swp_seq ?_
 refine zC ([(1,CallSpec.eq (s44 f) [true])]) [4,5] [] (Ak 1 (An (An (An (zr (AV.agg (cFrm f))) tv) (An (t44 (f)) (An (o0 hpre) (Ak 1 (fun (i0:Env)=>tv))))) (Ak 5 tv))) ?_
 refine swp_seq ?_
 refine swp_seq ?_
 refine zR [4,5,12] [] (Ak 2 tv) ?_
 refine zI (decide (refuseE f=3)) (fun y1 => ?_) (fun y1 => ?_)
 ·refine swp_seq ?_
  refine zR [2,3] [] (Ak 2 tv) ?_
  refine swp_ret ?_
  exact zT [] (An (Ak 2 tv) (An (An (An (ci (o1 hpre y1)) (zr nilN)) (An (An (zr (bv true)) (zr nilN)) tv)) (An (zr true) (An (zr true) (zr true)))))
 ·refine swp_skip ?_
  refine swp_seq ?_
  refine zR [2,3] [] (Ak 4 (An (fun (y2:decide (refuseE f=0)=true)=>(An (Ak 1 tv) tv)) (An (fun (y3:decide (refuseE f=0)=true)=>(An (An (fun (y4:decide (refuseE f=0)=true)=>y3) (Ak 1 tv)) tv)) (An (An (fun (y5:decide (refuseE f=0)=true)=>y5) (fun (y6:decide (refuseE f=0)=false)=>tv)) (Ak 1 (An (fun (y7:(bif decide (refuseE f=0) then decide (0<=lostN f) else false)=true)=>(An (Ak 1 tv) tv)) (An (fun (y8:(bif decide (refuseE f=0) then decide (0<=lostN f) else false)=true)=>(An (An (fun (y9:(bif decide (refuseE f=0) then decide (0<=lostN f) else false)=true)=>y8) (Ak 1 tv)) tv)) (An (An (fun (y10:(bif decide (refuseE f=0) then decide (0<=lostN f) else false)=true)=>y10) (fun (y11:(bif decide (refuseE f=0) then decide (0<=lostN f) else false)=false)=>tv)) (Ak 2 tv))))))))) ?_
  refine swp_ret ?_
  exact zT [] (An (Ak 2 tv) (An (An (An (ci (o2 hpre y1)) (zr nilN)) (An (An (cb (o3 hpre y1)) (zr nilN)) tv)) (An (zr true) (An (zr true) (zr true)))))
theorem t50 (f:Frm):Triple Try.prog 50 (s50 f):=by
 apply w50
 all_goals (intro h; have hs:=sound_of h)
 case o0=>exact sound_small hs
 all_goals (have ee:refuseE f=if (refP f).isSome then 0 else 3:=by unfold refuseE; rw [if_pos h])
 all_goals (have en:lostN f=outN (refP f):=by unfold lostN; rw [if_pos h])
 all_goals (rw [ee]; (try rw [en]))
 case o1 =>
  unfold lostV
  cases e:refP f with
  | none=>intro _; rfl
  | some x=>intro h; exact absurd h (by simp)
 case o2 =>
  unfold lostV
  cases e:refP f with
  | none=>intro h; exact absurd h (by simp)
  | some x=>intro _; rfl
 case o3 =>
  cases e:refP f with
  | none=>intro h; exact absurd h (by simp)
  | some x =>
   intro _
   have:=ref_ok hs _ x e
   show (bif bif true then decide (0<=x.2) else false then decide (x.2 < 100000) else false)=true
   rw [decide_eq_true (show 0<=x.2 by omega),decide_eq_true (show x.2 < 100000 by omega)]; rfl
theorem w47 (f:Frm) (o:Frm)
  (o0:okFrm f=true/\okFrm o=true->(bif decide (stripsV f<=stripsV o) then decide (lostV f<=lostV o) else false)=(decide (stripsV f<=stripsV o) && decide (lostV f<=lostV o))) :
  Triple Try.prog 47 (s47 f o):=by
 refine triple_of Try.func47 rfl Try.call47 T0_ok _ rfl rfl rfl rfl (Nat.le_of_ble_eq_true (by kernel_rfl)) (fun _ _ _ _ h=>h) ?_
 intro hpre C hC _ hE
 obtain ⟨P,w0,E0,av,hA,ro,df⟩:=C
 obtain ⟨rfl,rfl,rfl⟩:=hC
 refine swp_seq ?_
 refine zR [2,3] [0,8] (Ak 3 tv) ?_
 refine swp_seq ?_
 refine zC ([(1,CallSpec.eq (s27 f) [true])]) [2,3,5,6] [0,8] (Ak 1 (An (An (An (zr (AV.agg (cFrm f))) tv) (An (t27 (f)) (An hpre.1 (Ak 1 (fun (i0:Env)=>tv))))) (Ak 5 tv))) ?_
 refine swp_seq ?_
 refine zC ([(1,CallSpec.eq (s27 o) [true])]) [2,3,5,6,7,8] [0,8] (Ak 1 (An (An (An (zr (AV.agg (cFrm o))) tv) (An (t27 (o)) (An hpre.2 (Ak 1 (fun (i1:Env)=>tv))))) (Ak 5 tv))) ?_
 refine swp_seq ?_
 refine zC ([(1,CallSpec.eq (s50 f) [true])]) [3,5,6,7,8,9,10] [8] (Ak 1 (An (An (An (zr (AV.agg (cFrm f))) tv) (An (t50 (f)) (An hpre.1 (Ak 1 (fun (i2:Env)=>tv))))) (Ak 5 tv))) ?_
 refine swp_seq ?_
 refine zC ([(1,CallSpec.eq (s50 o) [true])]) [5,6,7,8,9,10,11,12] [] (Ak 1 (An (An (An (zr (AV.agg (cFrm o))) tv) (An (t50 (o)) (An hpre.2 (Ak 1 (fun (i3:Env)=>tv))))) (Ak 5 tv))) ?_
 refine swp_seq ?_
 refine zR [4] [] (Ak 2 (An (fun (y4:true=true)=>(An (Ak 1 tv) tv)) (An (An (fun (y5:true=true)=>(zr true)) (fun (y6:true=false)=>tv)) (Ak 1 (An (fun (y7:true=true)=>(An (Ak 1 tv) tv)) (An (An (fun (y8:true=true)=>(zr true)) (fun (y9:true=false)=>tv)) (Ak 1 (An (fun (y10:true=true)=>(An (Ak 1 tv) tv)) (An (An (fun (y11:true=true)=>(zr true)) (fun (y12:true=false)=>tv)) (Ak 1 (An (fun (y13:true=true)=>(An (Ak 1 tv) tv)) (An (fun (y14:true=true)=>(An (Ak 1 tv) tv)) (An (fun (y15:true=true)=>(An (An (fun (y16:true=true)=>(zr true)) (An (fun (y17:true=true)=>(zr true)) tv)) tv)) (An (An (fun (y18:true=true)=>(zr true)) (fun (y19:true=false)=>tv)) (Ak 1 (An (fun (y20:decide (stripsV f<=stripsV o)=true)=>(An (Ak 1 tv) tv)) (An (fun (y21:decide (stripsV f<=stripsV o)=true)=>(An (Ak 1 tv) tv)) (An (fun (y22:decide (stripsV f<=stripsV o)=true)=>(An (An (fun (y23:decide (stripsV f<=stripsV o)=true)=>y22) (An (fun (y24:decide (stripsV f<=stripsV o)=true)=>y22) tv)) tv)) (An (An (fun (y25:decide (stripsV f<=stripsV o)=true)=>y25) (fun (y26:decide (stripsV f<=stripsV o)=false)=>tv)) (Ak 1 tv)))))))))))))))))))) ?_
 refine swp_ret ?_
 exact zT [] (An (Ak 1 tv) (An (An (cb (o0 hpre)) (zr nilN)) (An (zr true) (An (zr true) (zr true)))))
theorem t47 (f o:Frm):Triple Try.prog 47 (s47 f o):=by
 apply w47
 all_goals (rintro ⟨h1,h2⟩; first | exact h1 | exact h2 | (cases decide (stripsV f<=stripsV o) <;> rfl))
end Go.Ab
namespace Go.Sh
structure Nar where
 piece:Int
 lo:Int
 hi:Int
 one:Int
 other:Int
def slackF (f:Frm) (s:Int):Frm:={ f with slack:=s }
end Go.Sh
namespace Go.En
open Go Go.Ab Go.Sh
end Go.En
namespace Go.Ab
open Go Go.RowKit Go.Proofs Go.Sh Go.En
def s8 (f:Frm) (k s:Int):CallSpec:={ args:=[vFrm f,iv k,iv s],res:=bv true,pre:=fitsF f }
def c8 (f:Frm) (k s:Int) (id:Nat):CallSpec:=s31o f id
def e5 (f:Frm) (c:Int) (set:List Int):List (Nat × OB):=[(112,.cells 26 (cFrm f))]
end Go.Ab
namespace Go.Ab
open Go Go.RowKit Go.Proofs Go.Sh Go.En
theorem nnot {a:Bool} (h:(!a)=false):a=true:=by cases a <;> first | rfl | cases h
theorem nnot2 {a:Bool} (h:(!!a)=true):a=true:=by cases a <;> first | rfl | cases h
theorem w8 (f:Frm) (k:Int) (s:Int)
  (o0:fitsF f->(!readyF f)=false->decide (Frm.slack f < s)=true->smallF f)
  (o1:fitsF f->(!readyF f)=false->decide (Frm.slack f < s)=true->Frm.length f=Frm.length (slackF f s))
  (o2:fitsF f->(!readyF f)=false->decide (Frm.slack f < s)=true->s=Frm.slack (slackF f s))
  (o3:fitsF f->(!readyF f)=false->decide (Frm.slack f < s)=true->List.length (Frm.strips f)=List.length (Frm.strips (slackF f s)))
  (o4:fitsF f->(!readyF f)=false->decide (Frm.slack f < s)=true -> ∀ (i5:Nat),i5 < List.length (Frm.strips (slackF f s))->cStrip (stp f i5)=cStrip (stp (slackF f s) i5))
  (o5:fitsF f->(!readyF f)=false->decide (Frm.slack f < s)=true->List.length (Frm.pieces f)=List.length (Frm.pieces (slackF f s)))
  (o6:fitsF f->(!readyF f)=false->decide (Frm.slack f < s)=true -> ∀ (i7:Nat),i7 < List.length (Frm.pieces (slackF f s))->cPiece (pc f i7)=cPiece (pc (slackF f s) i7))
  (o7:fitsF f->(!readyF f)=false->decide (Frm.slack f < s)=true->List.length (Frm.columns f)=List.length (Frm.columns (slackF f s)))
  (o8:fitsF f->(!readyF f)=false->decide (Frm.slack f < s)=true -> ∀ (i9:Nat),i9 < List.length (Frm.columns (slackF f s)) -> [aInts (col f i9)] = [aInts (col (slackF f s) i9)])
  (o9:fitsF f->(!readyF f)=false->decide (Frm.slack f < s)=true->fitsF (slackF f s))
  (o10:fitsF f->(!readyF f)=false->decide (Frm.slack f < s)=true->readyF (slackF f s)=true->okFrm (slackF f s)=true)
  (o11:fitsF f->(!readyF f)=false->decide (Frm.slack f < s)=true->readyF (slackF f s)=true->okFrm f=true)
  (o12:fitsF f->(!readyF f)=false->decide (Frm.slack f < s)=true->(bif readyF (slackF f s) then !(decide (stripsV (slackF f s)<=stripsV f) && decide (lostV (slackF f s)<=lostV f)) else false)=true->false=true)
  (o13:fitsF f->(!readyF f)=false->decide (Frm.slack f < s)=true->(bif readyF (slackF f s) then !(decide (stripsV (slackF f s)<=stripsV f) && decide (lostV (slackF f s)<=lostV f)) else false)=false->inI ((↑(List.length (Frm.strips f)):Int) - 1))
  (o14:fitsF f->(!readyF f)=false->decide (Frm.slack f < s)=true->(bif readyF (slackF f s) then !(decide (stripsV (slackF f s)<=stripsV f) && decide (lostV (slackF f s)<=lostV f)) else false)=false->(!within k 0 ((↑(List.length (Frm.strips f)):Int) - 1))=false->0<=k)
  (o15:fitsF f->(!readyF f)=false->decide (Frm.slack f < s)=true->(bif readyF (slackF f s) then !(decide (stripsV (slackF f s)<=stripsV f) && decide (lostV (slackF f s)<=lostV f)) else false)=false->(!within k 0 ((↑(List.length (Frm.strips f)):Int) - 1))=false->k < (↑(List.length (Frm.strips f)):Int))
  (o16:fitsF f->(!readyF f)=false->decide (Frm.slack f < s)=true->(bif readyF (slackF f s) then !(decide (stripsV (slackF f s)<=stripsV f) && decide (lostV (slackF f s)<=lostV f)) else false)=false->(!within k 0 ((↑(List.length (Frm.strips f)):Int) - 1))=false->inI (Strip.many (stp f (Int.toNat k)) + 1))
  (o17:fitsF f->(!readyF f)=false->decide (Frm.slack f < s)=true->(bif readyF (slackF f s) then !(decide (stripsV (slackF f s)<=stripsV f) && decide (lostV (slackF f s)<=lostV f)) else false)=false->(!within k 0 ((↑(List.length (Frm.strips f)):Int) - 1))=false->smallF f)
  (o18:fitsF f->(!readyF f)=false->decide (Frm.slack f < s)=true->(bif readyF (slackF f s) then !(decide (stripsV (slackF f s)<=stripsV f) && decide (lostV (slackF f s)<=lostV f)) else false)=false->(!within k 0 ((↑(List.length (Frm.strips f)):Int) - 1))=false->0<=k)
  (o19:fitsF f->(!readyF f)=false->decide (Frm.slack f < s)=true->(bif readyF (slackF f s) then !(decide (stripsV (slackF f s)<=stripsV f) && decide (lostV (slackF f s)<=lostV f)) else false)=false->(!within k 0 ((↑(List.length (Frm.strips f)):Int) - 1))=false->k < (↑(List.length (Frm.strips f)):Int))
  (o20:fitsF f->(!readyF f)=false->decide (Frm.slack f < s)=true->(bif readyF (slackF f s) then !(decide (stripsV (slackF f s)<=stripsV f) && decide (lostV (slackF f s)<=lostV f)) else false)=false->(!within k 0 ((↑(List.length (Frm.strips f)):Int) - 1))=false->fitsF (stockedF f (Int.toNat k) (Strip.many (stp f (Int.toNat k)) + 1)))
  (o21:fitsF f->(!readyF f)=false->decide (Frm.slack f < s)=true->(bif readyF (slackF f s) then !(decide (stripsV (slackF f s)<=stripsV f) && decide (lostV (slackF f s)<=lostV f)) else false)=false->(!within k 0 ((↑(List.length (Frm.strips f)):Int) - 1))=false->(!!readyF (stockedF f (Int.toNat k) (Strip.many (stp f (Int.toNat k)) + 1)))=true->okFrm (stockedF f (Int.toNat k) (Strip.many (stp f (Int.toNat k)) + 1))=true)
  (o22:fitsF f->(!readyF f)=false->decide (Frm.slack f < s)=true->(bif readyF (slackF f s) then !(decide (stripsV (slackF f s)<=stripsV f) && decide (lostV (slackF f s)<=lostV f)) else false)=false->(!within k 0 ((↑(List.length (Frm.strips f)):Int) - 1))=false->(!!readyF (stockedF f (Int.toNat k) (Strip.many (stp f (Int.toNat k)) + 1)))=true->okFrm f=true)
  (o23:fitsF f->(!readyF f)=false->decide (Frm.slack f < s)=true->(bif readyF (slackF f s) then !(decide (stripsV (slackF f s)<=stripsV f) && decide (lostV (slackF f s)<=lostV f)) else false)=false->(!within k 0 ((↑(List.length (Frm.strips f)):Int) - 1))=false->(!readyF (stockedF f (Int.toNat k) (Strip.many (stp f (Int.toNat k)) + 1)))=false->(!!readyF (stockedF f (Int.toNat k) (Strip.many (stp f (Int.toNat k)) + 1)))=true)
  (o24:fitsF f->(!readyF f)=false->decide (Frm.slack f < s)=true->(bif readyF (slackF f s) then !(decide (stripsV (slackF f s)<=stripsV f) && decide (lostV (slackF f s)<=lostV f)) else false)=false->(!within k 0 ((↑(List.length (Frm.strips f)):Int) - 1))=false->(bif bif !readyF (stockedF f (Int.toNat k) (Strip.many (stp f (Int.toNat k)) + 1)) then true else decide (stripsV (stockedF f (Int.toNat k) (Strip.many (stp f (Int.toNat k)) + 1))<=stripsV f) && decide (lostV (stockedF f (Int.toNat k) (Strip.many (stp f (Int.toNat k)) + 1))<=lostV f) then true else false)=true)
  (o25:fitsF f->(!readyF f)=false->decide (Frm.slack f < s)=false->inI ((↑(List.length (Frm.strips f)):Int) - 1))
  (o26:fitsF f->(!readyF f)=false->decide (Frm.slack f < s)=false->(!within k 0 ((↑(List.length (Frm.strips f)):Int) - 1))=false->0<=k)
  (o27:fitsF f->(!readyF f)=false->decide (Frm.slack f < s)=false->(!within k 0 ((↑(List.length (Frm.strips f)):Int) - 1))=false->k < (↑(List.length (Frm.strips f)):Int))
  (o28:fitsF f->(!readyF f)=false->decide (Frm.slack f < s)=false->(!within k 0 ((↑(List.length (Frm.strips f)):Int) - 1))=false->inI (Strip.many (stp f (Int.toNat k)) + 1))
  (o29:fitsF f->(!readyF f)=false->decide (Frm.slack f < s)=false->(!within k 0 ((↑(List.length (Frm.strips f)):Int) - 1))=false->smallF f)
  (o30:fitsF f->(!readyF f)=false->decide (Frm.slack f < s)=false->(!within k 0 ((↑(List.length (Frm.strips f)):Int) - 1))=false->0<=k)
  (o31:fitsF f->(!readyF f)=false->decide (Frm.slack f < s)=false->(!within k 0 ((↑(List.length (Frm.strips f)):Int) - 1))=false->k < (↑(List.length (Frm.strips f)):Int))
  (o32:fitsF f->(!readyF f)=false->decide (Frm.slack f < s)=false->(!within k 0 ((↑(List.length (Frm.strips f)):Int) - 1))=false->fitsF (stockedF f (Int.toNat k) (Strip.many (stp f (Int.toNat k)) + 1)))
  (o33:fitsF f->(!readyF f)=false->decide (Frm.slack f < s)=false->(!within k 0 ((↑(List.length (Frm.strips f)):Int) - 1))=false->(!!readyF (stockedF f (Int.toNat k) (Strip.many (stp f (Int.toNat k)) + 1)))=true->okFrm (stockedF f (Int.toNat k) (Strip.many (stp f (Int.toNat k)) + 1))=true)
  (o34:fitsF f->(!readyF f)=false->decide (Frm.slack f < s)=false->(!within k 0 ((↑(List.length (Frm.strips f)):Int) - 1))=false->(!!readyF (stockedF f (Int.toNat k) (Strip.many (stp f (Int.toNat k)) + 1)))=true->okFrm f=true)
  (o35:fitsF f->(!readyF f)=false->decide (Frm.slack f < s)=false->(!within k 0 ((↑(List.length (Frm.strips f)):Int) - 1))=false->(!readyF (stockedF f (Int.toNat k) (Strip.many (stp f (Int.toNat k)) + 1)))=false->(!!readyF (stockedF f (Int.toNat k) (Strip.many (stp f (Int.toNat k)) + 1)))=true)
  (o36:fitsF f->(!readyF f)=false->decide (Frm.slack f < s)=false->(!within k 0 ((↑(List.length (Frm.strips f)):Int) - 1))=false->(bif bif !readyF (stockedF f (Int.toNat k) (Strip.many (stp f (Int.toNat k)) + 1)) then true else decide (stripsV (stockedF f (Int.toNat k) (Strip.many (stp f (Int.toNat k)) + 1))<=stripsV f) && decide (lostV (stockedF f (Int.toNat k) (Strip.many (stp f (Int.toNat k)) + 1))<=lostV f) then true else false)=true) :
  Triple Try.prog 8 (s8 f k s):=by
 refine triple_of Try.func8 rfl Try.call8 T0_ok _ rfl rfl rfl rfl (Nat.le_of_ble_eq_true (by kernel_rfl)) (fun _ _ _ _ h=>h) ?_
 intro hpre C hC _ hE
 obtain ⟨P,w0,E0,av,hA,ro,df⟩:=C
 obtain ⟨rfl,rfl,rfl⟩:=hC
 refine swp_seq ?_
 refine zR [1,2,3] [0] (Ak 2 tv) ?_
 refine swp_seq ?_
 refine swp_seq ?_
 refine zC ([(1,CallSpec.eq (s18 f) [true])]) [1,2,3,11] [0] (Ak 1 (An (An (An (zr (AV.agg (cFrm f))) tv) (An (t18 (f)) (An hpre (Ak 1 (fun (i0:Env)=>tv))))) (Ak 1 tv))) ?_
 refine zI (!readyF f) (fun y1 => ?_) (fun y1 => ?_)
 ·refine swp_seq ?_
  refine zC ([(0,CallSpec.eq s20 [])]) [6] [] (An (Ak 1 (An (t20) (Ak 2 (fun (i2:Env)=>tv)))) (Ak 1 tv)) ?_
  refine swp_ret ?_
  exact zT [] (An (Ak 1 tv) (An (An (zr (bv true)) (zr nilN)) (An (zr true) (An (zr true) (zr true)))))
 ·refine swp_skip ?_
  refine swp_seq ?_
  refine swp_seq ?_
  refine zR [1,2,3,16] [0] (Ak 4 tv) ?_
  refine zI (decide (Frm.slack f < s)) (fun y3 => ?_) (fun y3 => ?_)
  ·refine swp_seq ?_
   refine zC ([(1,CallSpec.eq (c8 f k s 80) [true])]) [1,2,3,7] [0,88,80,81,82] (Ak 1 (An (An (An (zr (AV.agg (cFrm f))) tv) (An (t31o (f) (80)) (An (o0 hpre y1 y3) (Ak 1 (fun (i4:Env)=>tv))))) (Ak 2 tv))) ?_
   refine swp_seq ?_
   refine zR [1,3,7] [0,88,80,81,82] (Ak 3 tv) ?_
   refine swp_seq ?_
   refine swp_ent (zE (st2:=ASt.mk [(1,iv k),(3,AV.ptr 0 []),(7,AV.ptr 88 [])] [(88,OB.cells 26 (cFrm (slackF f s))),(0,OB.cells 26 (cFrm f))] 128) hE [80,81,82] [(0,.same 0),(88,.same 88)] [1] [0] (An (An (An (zr (iv k)) (zr true)) (An (An (zr (some (Src.same 0))) (zr nilP)) (An (An (zr (some (Src.same 88))) (zr nilP)) tv))) (An (An (An (zr 26) (An (An (An (ci (o1 hpre y1 y3)) (zr nilN)) (An (An (ci (o2 hpre y1 y3)) (zr nilN)) (An (An (zr 2) (An (o3 hpre y1 y3) (fun (i5:Nat)=>(fun (y6:i5 < List.length (Frm.strips (slackF f s)))=>(o4 hpre y1 y3 i5 y6))))) (An (An (zr 3) (An (o5 hpre y1 y3) (fun (i7:Nat)=>(fun (y8:i7 < List.length (Frm.pieces (slackF f s)))=>(o6 hpre y1 y3 i7 y8))))) (An (An (zr 1) (An (o7 hpre y1 y3) (fun (i9:Nat)=>(fun (y10:i9 < List.length (Frm.columns (slackF f s)))=>(o8 hpre y1 y3 i9 y10))))) tv))))) (zr true))) (An (An (zr (OB.cells 26 (cFrm f))) (zr true)) tv)) (An (zr true) (zr true))))) ?_
   refine zC ([(1,CallSpec.eq (s18 (slackF f s)) [true]),(5,CallSpec.eq (s47 (slackF f s) f) [true,true])]) [1,3,28] [0] (Ak 1 (An (An (An (zr (AV.agg (cFrm (slackF f s)))) tv) (An (t18 (slackF f s)) (An (o9 hpre y1 y3) (Ak 1 (fun (i11:Env)=>tv))))) (Ak 1 (An (fun (y12:readyF (slackF f s)=true)=>(An (Ak 1 tv) tv)) (An (fun (y13:readyF (slackF f s)=true)=>(An (Ak 1 tv) tv)) (An (fun (y14:readyF (slackF f s)=true)=>(An (Ak 1 (An (fun (y15:readyF (slackF f s)=true)=>y14) (An (fun (y16:readyF (slackF f s)=true)=>y14) tv))) (An (An (zr (AV.agg (cFrm (slackF f s)))) (An (zr (AV.agg (cFrm f))) tv)) (An (t47 (slackF f s) (f)) (An (An (o10 hpre y1 y3 y14) (o11 hpre y1 y3 y14)) (Ak 1 (fun (i17:Env)=>tv))))))) (An (fun (y18:readyF (slackF f s)=true)=>(An (An (fun (y19:readyF (slackF f s)=true)=>y18) tv) tv)) (An (An (fun (y20:readyF (slackF f s)=true)=>y20) (fun (y21:readyF (slackF f s)=false)=>tv)) tv)))))))) ?_
   refine zI (bif readyF (slackF f s) then !(decide (stripsV (slackF f s)<=stripsV f) && decide (lostV (slackF f s)<=lostV f)) else false) (fun y22 => ?_) (fun y22 => ?_)
   ·refine swp_seq ?_
    refine zR [6] [] (Ak 1 tv) ?_
    refine swp_ret ?_
    exact zT [] (An (Ak 1 tv) (An (An (cb (o12 hpre y1 y3 y22)) (zr nilN)) (An (zr true) (An (zr true) (zr true)))))
   ·refine swp_skip ?_
    refine swp_seq ?_
    refine swp_seq ?_
    refine zC ([(5,CallSpec.eq (s28 k 0 ((↑(List.length (Frm.strips f)):Int) - 1)) [true,true,true])]) [1,3,35] [0] (Ak 4 (An (o13 hpre y1 y3 y22) (An (An (An (zr (iv k)) (An (zr (iv 0)) (An (zr (iv ((↑(List.length (Frm.strips f)):Int) - 1))) tv))) (An (t28 (k) (0) ((↑(List.length (Frm.strips f)):Int) - 1)) (Ak 2 (fun (i23:Env)=>tv)))) (Ak 1 tv)))) ?_
    refine zI (!within k 0 ((↑(List.length (Frm.strips f)):Int) - 1)) (fun y24 => ?_) (fun y24 => ?_)
    ·refine swp_seq ?_
     refine zC ([(0,CallSpec.eq s20 [])]) [6] [] (An (Ak 1 (An (t20) (Ak 2 (fun (i25:Env)=>tv)))) (Ak 1 tv)) ?_
     refine swp_ret ?_
     exact zT [] (An (Ak 1 tv) (An (An (zr (bv true)) (zr nilN)) (An (zr true) (An (zr true) (zr true)))))
    ·refine swp_skip ?_
     refine swp_seq ?_
     refine zC ([(9,CallSpec.eq (s49 f k (Strip.many (stp f (Int.toNat k)) + 1)) [true,true,true])]) [3,8] [0,328] (Ak 5 (An (An (o14 hpre y1 y3 y22 y24) (o15 hpre y1 y3 y22 y24)) (Ak 2 (An (o16 hpre y1 y3 y22 y24) (An (An (An (zr (AV.agg (cFrm f))) (An (zr (iv k)) (An (zr (iv (Strip.many (stp f (Int.toNat k)) + 1))) tv))) (An (t49 (f) (k) (Strip.many (stp f (Int.toNat k)) + 1)) (An (An (o17 hpre y1 y3 y22 y24) (An (o18 hpre y1 y3 y22 y24) (o19 hpre y1 y3 y22 y24))) (Ak 1 (fun (i26:Env)=>tv))))) (Ak 2 tv)))))) ?_
     refine swp_seq ?_
     refine zC ([(1,CallSpec.eq (s18 (stockedF f (Int.toNat k) (Strip.many (stp f (Int.toNat k)) + 1))) [true]),(6,CallSpec.eq (s47 (stockedF f (Int.toNat k) (Strip.many (stp f (Int.toNat k)) + 1)) f) [true,true]),(9,CallSpec.eq s20 [])]) [6] [] (Ak 1 (An (An (An (zr (AV.agg (cFrm (stockedF f (Int.toNat k) (Strip.many (stp f (Int.toNat k)) + 1))))) tv) (An (t18 (stockedF f (Int.toNat k) (Strip.many (stp f (Int.toNat k)) + 1))) (An (o20 hpre y1 y3 y22 y24) (Ak 1 (fun (i27:Env)=>tv))))) (Ak 2 (An (fun (y28:(!!readyF (stockedF f (Int.toNat k) (Strip.many (stp f (Int.toNat k)) + 1)))=true)=>(An (Ak 1 tv) tv)) (An (fun (y29:(!!readyF (stockedF f (Int.toNat k) (Strip.many (stp f (Int.toNat k)) + 1)))=true)=>(An (Ak 1 tv) tv)) (An (fun (y30:(!!readyF (stockedF f (Int.toNat k) (Strip.many (stp f (Int.toNat k)) + 1)))=true)=>(An (Ak 1 (An (fun (y31:(!!readyF (stockedF f (Int.toNat k) (Strip.many (stp f (Int.toNat k)) + 1)))=true)=>y30) (An (fun (y32:(!!readyF (stockedF f (Int.toNat k) (Strip.many (stp f (Int.toNat k)) + 1)))=true)=>y30) tv))) (An (An (zr (AV.agg (cFrm (stockedF f (Int.toNat k) (Strip.many (stp f (Int.toNat k)) + 1))))) (An (zr (AV.agg (cFrm f))) tv)) (An (t47 (stockedF f (Int.toNat k) (Strip.many (stp f (Int.toNat k)) + 1)) (f)) (An (An (o21 hpre y1 y3 y22 y24 y30) (o22 hpre y1 y3 y22 y24 y30)) (Ak 1 (fun (i33:Env)=>tv))))))) (An (An (fun (y34:(!readyF (stockedF f (Int.toNat k) (Strip.many (stp f (Int.toNat k)) + 1)))=true)=>tv) (fun (y35:(!readyF (stockedF f (Int.toNat k) (Strip.many (stp f (Int.toNat k)) + 1)))=false)=>(o23 hpre y1 y3 y22 y24 y35))) (Ak 1 (An (fun (y36:(bif !readyF (stockedF f (Int.toNat k) (Strip.many (stp f (Int.toNat k)) + 1)) then true else decide (stripsV (stockedF f (Int.toNat k) (Strip.many (stp f (Int.toNat k)) + 1))<=stripsV f) && decide (lostV (stockedF f (Int.toNat k) (Strip.many (stp f (Int.toNat k)) + 1))<=lostV f))=true)=>(An (Ak 1 tv) (Ak 1 (An (t20) (Ak 2 (fun (i37:Env)=>tv)))))) (An (An (fun (y38:(bif !readyF (stockedF f (Int.toNat k) (Strip.many (stp f (Int.toNat k)) + 1)) then true else decide (stripsV (stockedF f (Int.toNat k) (Strip.many (stp f (Int.toNat k)) + 1))<=stripsV f) && decide (lostV (stockedF f (Int.toNat k) (Strip.many (stp f (Int.toNat k)) + 1))<=lostV f))=true)=>y38) (fun (y39:(bif !readyF (stockedF f (Int.toNat k) (Strip.many (stp f (Int.toNat k)) + 1)) then true else decide (stripsV (stockedF f (Int.toNat k) (Strip.many (stp f (Int.toNat k)) + 1))<=stripsV f) && decide (lostV (stockedF f (Int.toNat k) (Strip.many (stp f (Int.toNat k)) + 1))<=lostV f))=false)=>tv)) (Ak 1 tv))))))))))) ?_
     refine swp_ret ?_
     exact zT [] (An (Ak 1 tv) (An (An (cb (o24 hpre y1 y3 y22 y24)) (zr nilN)) (An (zr true) (An (zr true) (zr true)))))
  ·refine swp_skip ?_
   refine swp_seq ?_
   refine swp_seq ?_
   refine zC ([(5,CallSpec.eq (s28 k 0 ((↑(List.length (Frm.strips f)):Int) - 1)) [true,true,true])]) [1,3,35] [0] (Ak 4 (An (o25 hpre y1 y3) (An (An (An (zr (iv k)) (An (zr (iv 0)) (An (zr (iv ((↑(List.length (Frm.strips f)):Int) - 1))) tv))) (An (t28 (k) (0) ((↑(List.length (Frm.strips f)):Int) - 1)) (Ak 2 (fun (i40:Env)=>tv)))) (Ak 1 tv)))) ?_
   refine zI (!within k 0 ((↑(List.length (Frm.strips f)):Int) - 1)) (fun y41 => ?_) (fun y41 => ?_)
   ·refine swp_seq ?_
    refine zC ([(0,CallSpec.eq s20 [])]) [6] [] (An (Ak 1 (An (t20) (Ak 2 (fun (i42:Env)=>tv)))) (Ak 1 tv)) ?_
    refine swp_ret ?_
    exact zT [] (An (Ak 1 tv) (An (An (zr (bv true)) (zr nilN)) (An (zr true) (An (zr true) (zr true)))))
   ·refine swp_skip ?_
    refine swp_seq ?_
    refine zC ([(9,CallSpec.eq (s49 f k (Strip.many (stp f (Int.toNat k)) + 1)) [true,true,true])]) [3,8] [0,208] (Ak 5 (An (An (o26 hpre y1 y3 y41) (o27 hpre y1 y3 y41)) (Ak 2 (An (o28 hpre y1 y3 y41) (An (An (An (zr (AV.agg (cFrm f))) (An (zr (iv k)) (An (zr (iv (Strip.many (stp f (Int.toNat k)) + 1))) tv))) (An (t49 (f) (k) (Strip.many (stp f (Int.toNat k)) + 1)) (An (An (o29 hpre y1 y3 y41) (An (o30 hpre y1 y3 y41) (o31 hpre y1 y3 y41))) (Ak 1 (fun (i43:Env)=>tv))))) (Ak 2 tv)))))) ?_
    refine swp_seq ?_
    refine zC ([(1,CallSpec.eq (s18 (stockedF f (Int.toNat k) (Strip.many (stp f (Int.toNat k)) + 1))) [true]),(6,CallSpec.eq (s47 (stockedF f (Int.toNat k) (Strip.many (stp f (Int.toNat k)) + 1)) f) [true,true]),(9,CallSpec.eq s20 [])]) [6] [] (Ak 1 (An (An (An (zr (AV.agg (cFrm (stockedF f (Int.toNat k) (Strip.many (stp f (Int.toNat k)) + 1))))) tv) (An (t18 (stockedF f (Int.toNat k) (Strip.many (stp f (Int.toNat k)) + 1))) (An (o32 hpre y1 y3 y41) (Ak 1 (fun (i44:Env)=>tv))))) (Ak 2 (An (fun (y45:(!!readyF (stockedF f (Int.toNat k) (Strip.many (stp f (Int.toNat k)) + 1)))=true)=>(An (Ak 1 tv) tv)) (An (fun (y46:(!!readyF (stockedF f (Int.toNat k) (Strip.many (stp f (Int.toNat k)) + 1)))=true)=>(An (Ak 1 tv) tv)) (An (fun (y47:(!!readyF (stockedF f (Int.toNat k) (Strip.many (stp f (Int.toNat k)) + 1)))=true)=>(An (Ak 1 (An (fun (y48:(!!readyF (stockedF f (Int.toNat k) (Strip.many (stp f (Int.toNat k)) + 1)))=true)=>y47) (An (fun (y49:(!!readyF (stockedF f (Int.toNat k) (Strip.many (stp f (Int.toNat k)) + 1)))=true)=>y47) tv))) (An (An (zr (AV.agg (cFrm (stockedF f (Int.toNat k) (Strip.many (stp f (Int.toNat k)) + 1))))) (An (zr (AV.agg (cFrm f))) tv)) (An (t47 (stockedF f (Int.toNat k) (Strip.many (stp f (Int.toNat k)) + 1)) (f)) (An (An (o33 hpre y1 y3 y41 y47) (o34 hpre y1 y3 y41 y47)) (Ak 1 (fun (i50:Env)=>tv))))))) (An (An (fun (y51:(!readyF (stockedF f (Int.toNat k) (Strip.many (stp f (Int.toNat k)) + 1)))=true)=>tv) (fun (y52:(!readyF (stockedF f (Int.toNat k) (Strip.many (stp f (Int.toNat k)) + 1)))=false)=>(o35 hpre y1 y3 y41 y52))) (Ak 1 (An (fun (y53:(bif !readyF (stockedF f (Int.toNat k) (Strip.many (stp f (Int.toNat k)) + 1)) then true else decide (stripsV (stockedF f (Int.toNat k) (Strip.many (stp f (Int.toNat k)) + 1))<=stripsV f) && decide (lostV (stockedF f (Int.toNat k) (Strip.many (stp f (Int.toNat k)) + 1))<=lostV f))=true)=>(An (Ak 1 tv) (Ak 1 (An (t20) (Ak 2 (fun (i54:Env)=>tv)))))) (An (An (fun (y55:(bif !readyF (stockedF f (Int.toNat k) (Strip.many (stp f (Int.toNat k)) + 1)) then true else decide (stripsV (stockedF f (Int.toNat k) (Strip.many (stp f (Int.toNat k)) + 1))<=stripsV f) && decide (lostV (stockedF f (Int.toNat k) (Strip.many (stp f (Int.toNat k)) + 1))<=lostV f))=true)=>y55) (fun (y56:(bif !readyF (stockedF f (Int.toNat k) (Strip.many (stp f (Int.toNat k)) + 1)) then true else decide (stripsV (stockedF f (Int.toNat k) (Strip.many (stp f (Int.toNat k)) + 1))<=stripsV f) && decide (lostV (stockedF f (Int.toNat k) (Strip.many (stp f (Int.toNat k)) + 1))<=lostV f))=false)=>tv)) (Ak 1 tv))))))))))) ?_
    refine swp_ret ?_
    exact zT [] (An (Ak 1 tv) (An (An (cb (o36 hpre y1 y3 y41)) (zr nilN)) (An (zr true) (An (zr true) (zr true)))))
theorem stocked_fits {f:Frm} (h:smallF f) (k:Nat) (m:Int):fitsF (stockedF f k m):=by
 refine small_fits ⟨?_,h.2.1,h.2.2.1,h.2.2.2⟩
 show (f.strips.set _ _).length<=64
 rw [List.length_set]; exact h.1
theorem t8 (f:Frm) (k s:Int):Triple Try.prog 8 (s8 f k s):=by
 apply w8
 all_goals (intro hp h; obtain ⟨g1,g2,g3⟩:=ready_ok (nnot h); have hl:=g2.strips; intro h0)
 all_goals (try (first | exact g3 | rfl | (intro i hi; rfl) | exact small_fits g3 | ((repeat intro _); exact (ready_ok ‹_›).1) | ((repeat intro _); exact g1)))
 all_goals (simp only [decide_eq_true_eq,decide_eq_false_iff_not] at h0)
 case o12 =>
  intro hh
  cases e:readyF (slackF f s) with
  | false=>rw [e] at hh; exact hh
  | true =>
   have ho:=(ready_ok e).2.1
   have hgood:AsGood f (slackF f s):=good_slack (by omega)
   rw [e,decide_eq_true (hgood.stripsV g2 ho),decide_eq_true (hgood.lostV g2 ho)] at hh
   exact hh
 all_goals (repeat intro _)
 all_goals (try (first | exact g3 | exact g1 | (simp only [inI]; omega) | exact stocked_fits g3 _ _ | (rename_i hh; exact (ready_ok (nnot2 hh)).1) | (rename_i hh; rw [hh]; rfl)))
 all_goals (first | (have hw:within k 0 ((f.strips.length:Int) - 1)=true:=(nnot (by assumption))) | (rename_i hh _; have hw:=nnot hh) | skip)
 all_goals (have hk:=Go.Sh.within_iff.1 hw; have hst:=g2.strip k.toNat (by omega))
 all_goals (try (first | omega | (simp only [inI]; omega)))
 all_goals (
  have hgood:AsGood f (stockedF f k.toNat ((stp f k.toNat).many + 1)):=good_strip (by omega) (by omega)
  cases e:readyF (stockedF f k.toNat ((stp f k.toNat).many + 1)) with
  | false=>rfl
  | true =>
   have ho:=(ready_ok e).2.1
   rw [decide_eq_true (hgood.stripsV g2 ho),decide_eq_true (hgood.lostV g2 ho)]; rfl)
end Go.Ab
namespace Go.Ab
open Go Go.RowKit
def Dec (P:Program) (t:TypeId) {α:Type} (c:α->List AV) (ok:α->Prop):Prop :=
 ∀ {H:Type} (enc:TypeId × Value->H) (w:World) (E:Env) (fuel:Nat) (cs:List Value) (d:DataW H) (ps:List MemPlace),
  (∀ b,E.M b=w.heap[b]?)->DataW.trod enc P w 0 (fun _=>true) true fuel t cs=some (d,ps)->(∀ n ∈ d.weights P t,n<=reachBytes) -> ∃ a,ok a /\ ∀ o,RelL E o (c a) cs
theorem mcell_of {E:Env} {w:World} (h:∀ b,E.M b=w.heap[b]?) {a:Addr} {v:Value} (hc:w.cell? a=some v):a.spot=none/\mcell E.M a.block a.off=some v:=by
 refine ⟨World.cell?_spot hc,?_⟩
 have hs:=World.cell?_spot hc
 unfold World.cell? at hc
 unfold mcell
 rw [h]
 split at hc
 ·rename_i c t fr e
  rw [hs] at hc
  rw [e]
  simpa using hc
 ·cases hc
theorem lit_wf {n:Int} (h:(Lit.int .i64 n).wf=true) : -9223372036854775808<=n/\n<=9223372036854775807:=by
 simpa [Lit.wf,IntKind.min,IntKind.max,IntKind.signed,IntKind.bits] using h
theorem dec_int {P:Program} {t:TypeId} (ht:P.underlying t=some (.int .i64)):Dec P t (fun n=>[iv n]) (fun n => -9223372036854775808<=n/\n<=9223372036854775807):=by
 intro H enc w E fuel cs d ps _ h _
 obtain ⟨n,rfl,_,hw⟩:=DataW.trod_int ht h
 exact ⟨n,lit_wf hw,fun o => .cons (.lit _) rfl .nil⟩
theorem weightsAll_mem {H:Type} {P:Program} {e:TypeId}:∀ {l:List (DataW H)} {d:DataW H},d ∈ l -> ∀ n ∈ d.weights P e,n ∈ DataW.weightsAll P e l:=by
 intro l
 induction l with
 | nil=>intro d h; cases h
 | cons x l ih =>
  intro d h n hn
  rw [DataW.weightsAll,List.mem_append]
  rcases List.mem_cons.1 h with rfl | h
  ·exact .inl hn
  ·exact .inr (ih h n hn)
theorem dec_slice {P:Program} {t e:TypeId} {α:Type} [Inhabited α] {c:α->List AV} {ok:α->Prop} (ht:P.underlying t=some (.slice e)) {sz:Nat} (hsz:P.cellsOf e=sz) (hpos:0 < sz) (hby:0 < P.bytesOf e) (he:Dec P e c ok) :
  Dec P t (fun l:List α=>[.sl sz l.length (fun i=>c (l.getD i default))]) (fun l=>l.length<=140737488355328 /\ ∀ a,a ∈ l->ok a):=by
 intro H enc w E fuel cs d ps hE h hw
 rcases Deep.open_slice ht h with ⟨rfl,hx⟩ | ⟨a,len,cap,m,n,D,Pl,rfl,hb,hl,hm,hmm,hx,hall⟩
 ·refine ⟨[],⟨Nat.zero_le _,fun a ha=>by cases ha⟩,fun o => ?_⟩
  exact .cons (.slN _ _) rfl .nil
 ·simp only [if_true] at hmm
  subst hmm
  rw [hsz] at hall
  obtain ⟨rfl,rfl⟩:=Prod.mk.inj hx
  have hwt:∀ i,i < len -> ∀ k ∈ (D i).weights P e,k<=reachBytes:=by
   intro i hi k hk
   refine hw k ?_
   rw [DataW.weights,ht]
   refine List.mem_cons_of_mem _ (List.mem_append_left _ (weightsAll_mem (d:=D i) ?_ k hk))
   exact List.mem_map.2 ⟨i,List.mem_range.2 hi,rfl⟩
  have hlen:len<=140737488355328:=by
   have h1:(((List.range len).map D).length + ((List.range (m - len)).map fun j=>D (len + j)).length) * P.bytesOf e<=reachBytes:=by
    refine hw _ ?_
    rw [DataW.weights,ht]
    exact List.mem_cons_self ..
   simp only [List.length_map,List.length_range] at h1
   have h2:len<=(len + (m - len)) * P.bytesOf e:=Nat.le_trans (Nat.le_add_right _ _) (Nat.le_mul_of_pos_right _ hby)
   have h3:=reachBytes_lt
   omega
  obtain ⟨g,hg⟩:=Deep.choose_lt (α:=List Value) (p:=fun i cs'=>w.cells? 0 (a.add (i * sz)) sz=some cs'/\DataW.trod enc P w 0 (fun _=>true) true n e cs'=some (D i,Pl i)) hall
  have hdec:∀ i,i < len -> ∃ x,ok x /\ ∀ o,RelL E o (c x) (g i):=fun i hi=>he enc w E n (g i) (D i) (Pl i) hE (hg i (by omega)).2 (hwt i hi)
  obtain ⟨A,hA⟩:=Deep.choose_lt (α:=α) (p:=fun i x=>ok x /\ ∀ o,RelL E o (c x) (g i)) hdec
  refine ⟨(List.range len).map A,⟨by simpa using hlen,fun x hx => ?_⟩,fun o => .cons ?_ rfl .nil⟩
  ·obtain ⟨i,hi,rfl⟩:=List.mem_map.1 hx
   exact (hA i (List.mem_range.1 hi)).1
  ·rw [List.length_map,List.length_range]
   have hcell:∀ i k,i < m->k < sz -> ∃ v,(g i)[k]? = some v/\w.cell? ((a.add (i * sz)).add k)=some v:=by
    intro i k hi hk
    obtain ⟨_,hl1,hl2⟩:=World.cells?_some (hg i hi).1
    have:=hl2 k hk
    obtain ⟨v,hv⟩:∃ v,(g i)[k]? = some v:=⟨_,List.getElem?_eq_getElem (by omega)⟩
    exact ⟨v,hv,by rw [this,hv]⟩
   by_cases h0:m=0
   ·subst h0
    obtain rfl:len=0:=by omega
    exact .slZ _ _ _
   ·obtain ⟨v,_,hv⟩:=hcell 0 0 (by omega) hpos
    have hsp:=(mcell_of hE hv).1
    obtain ⟨b,off,spot⟩:=a
    obtain rfl:spot=none:=by simpa [Addr.add] using hsp
    refine .slA sz len _ b off m g hl hm (fun i hi => ?_) (fun i k hi hk => ?_) (fun i hi => ?_)
    ·exact (World.cells?_some (hg i (by omega)).1).2.1
    ·obtain ⟨v,hv1,hv2⟩:=hcell i k (by omega) hk
     rw [hv1]
     have:=(mcell_of hE hv2).2
     rw [addr_add,addr_add] at this
     exact this
    ·have:((List.range len).map A).getD i default=A i:=by
      rw [List.getD_eq_getElem?_getD,List.getElem?_map,List.getElem?_range hi]; rfl
     rw [this]
     exact (hA i hi).2 false
def DecFs (P:Program) (off fin:Nat) (fs:List Field) {α:Type} (c:α->List AV) (ok:α->Prop):Prop :=
 ∀ {H:Type} (enc:TypeId × Value->H) (w:World) (E:Env) (n:Nat) (cs:List Value) (xs:List (DataW H × List MemPlace)),
  (∀ b,E.M b=w.heap[b]?)->cs.length=fin->xs.length=fs.length->(∀ (i:Nat) (f:Field),fs[i]? = some f->DataW.trod enc P w 0 (fun _=>true) true n f.type ((cs.drop f.offset).take (P.cellsOf f.type))=xs[i]?) →
  (∀ k ∈ DataW.weightsEach P (fs.map (·.type)) (xs.map (·.1)),k<=reachBytes) -> ∃ a,ok a /\ ∀ o,RelL E o (c a) (cs.drop off)
theorem decFs_nil {P:Program} {fin:Nat}:DecFs P fin fin [] (fun _:Unit=>[]) (fun _=>True):=by
 intro H enc w E n cs xs _ hl _ _ _
 refine ⟨(),trivial,fun o => ?_⟩
 rw [List.drop_of_length_le (by omega)]
 exact .nil
theorem decFs_cons {P:Program} {off mid fin:Nat} {f:Field} {fs:List Field} {α β:Type} {c1:α->List AV} {ok1:α->Prop} {c2:β->List AV} {ok2:β->Prop} {t:TypeId} (hft:f.type=t) (ho:f.offset=off) (hm:off + P.cellsOf t=mid)
  (h1:Dec P t c1 ok1) (h2:DecFs P mid fin fs c2 ok2):DecFs P off fin (f :: fs) (fun p:α × β=>c1 p.1 ++ c2 p.2) (fun p=>ok1 p.1/\ok2 p.2):=by
 intro H enc w E n cs xs hE hl hx hall hw
 subst hft; subst ho; subst hm
 cases xs with
 | nil=>simp at hx
 | cons x xs =>
  have h0:=hall 0 f rfl
  simp only [List.getElem?_cons_zero] at h0
  obtain ⟨a,ha,hra⟩:=h1 enc w E n _ x.1 x.2 hE h0 (fun k hk=>hw k (by
   simp only [List.map_cons,DataW.weightsEach]
   exact List.mem_append_left _ hk))
  obtain ⟨b,hb,hrb⟩:=h2 enc w E n cs xs hE hl (by simpa using hx) (fun i g hg=>by
   have:=hall (i + 1) g (by simpa using hg)
   simpa using this) (fun k hk=>hw k (by
   simp only [List.map_cons,DataW.weightsEach]
   exact List.mem_append_right _ hk))
  refine ⟨(a,b),⟨ha,hb⟩,fun o => ?_⟩
  have:=(hra o).append (hrb o)
  rw [← List.drop_drop,List.take_append_drop] at this
  exact this
theorem dec_struct {P:Program} {t:TypeId} {fs:Array Field} {sz:Nat} {α:Type} {c:α->List AV} {ok:α->Prop} (ht:P.underlying t=some (.struct fs)) (hsz:P.cellsOf t=sz) (h:DecFs P 0 sz fs.toList c ok):Dec P t c ok:=by
 intro H enc w E fuel cs d ps hE hd hw
 obtain ⟨xs,n,_,hx,hl,hxl,hall⟩:=DataW.trod_struct ht hd
 obtain ⟨rfl,rfl⟩:=Prod.mk.inj hx
 obtain ⟨a,ha,hr⟩:=h enc w E n cs xs hE (by omega) (by simpa using hxl) (fun i f hf=>hall i f (by simpa using hf)) (fun k hk=>hw k (by rw [DataW.weights,ht]; exact hk))
 exact ⟨a,ha,fun o=>by simpa using hr o⟩
theorem Dec.map {P:Program} {t:TypeId} {α β:Type} {c:α->List AV} {ok:α->Prop} {c':β->List AV} {ok':β->Prop} (h:Dec P t c ok) (g:α->β) (hc:∀ a,ok a->c' (g a)=c a) (hok:∀ a,ok a->ok' (g a)):Dec P t c' ok':=by
 intro H enc w E fuel cs d ps hE hd hw
 obtain ⟨a,ha,hr⟩:=h enc w E fuel cs d ps hE hd hw
 exact ⟨g a,hok a ha,fun o=>by rw [hc a ha]; exact hr o⟩
theorem Dec.arg {P:Program} {t:TypeId} {α:Type} {c:α->List AV} {ok:α->Prop} (h:Dec P t c ok) {H:Type} {enc:TypeId × Value->H} {w:World} {E:Env} (hE:∀ b,E.M b=w.heap[b]?) {v:Value} {d:DataW H} {ps:List MemPlace}
  (hd:DataW.Trod enc P w 0 (fun _=>true) true t v d ps) (hw:∀ n ∈ d.weights P t,n<=reachBytes):∃ a,ok a /\ ∀ o,RelL E o (c a) v.cells.toList:=by
 obtain ⟨fuel,hf⟩:=hd
 exact h enc w E fuel _ d ps hE hf hw
def envOf (w:World):Env:={ M:=fun b=>w.heap[b]?,blk:=fun _=>none,hdr:=fun _=>none,fns:=fun _ _=>False }
theorem heapOK_of (P:Program) (w:World):HeapOK (calleeCtx P (envOf w) w []) (envOf w) (Heap.of []) w where
 os:=rfl
 tape:=rfl
 output:=rfl
 size:=Nat.le_refl _
 pres:=fun _ _=>rfl
 mem:=fun _ _ h=>h
 le:=Env.le.refl _
 ext:=fun _ _ h => .inl h
 own:=fun id ob h=>by cases h
 sep:=fun i j k _ h=>absurd rfl h
theorem trodAll_below {H:Type} {enc:TypeId × Value->H} {P:Program} (hl:laidOutB P=true) {W W':World} (hb:Below W.heap.size W W'):∀ {ts:List TypeId} {vs:List Value} {ds:List (DataW H)} {ps:List MemPlace},
  (∀ t ∈ ts,P.readableRec t=true/\t < P.types.size)->DataW.TrodAll enc P W 0 (fun _=>true) true ts vs ds ps->(∀ x ∈ ps,x.block < W.heap.size) →
  DataW.TrodAll enc P W' 0 (fun b=>decide (b < W.heap.size)) true ts vs ds ps:=by
 intro ts
 induction ts with
 | nil =>
  intro vs ds ps _ h _
  obtain ⟨rfl,rfl,rfl⟩:=ChangeShapes.trodAll_nil h
  exact ChangeShapes.trodAll_mk0
 | cons t ts ih =>
  intro vs ds ps hr h hlt
  obtain ⟨v,vs',d,ds',p,q,rfl,rfl,rfl,hd,hrest⟩:=ChangeShapes.trodAll_cons h
  obtain ⟨h1,h2⟩:=hr t (List.mem_cons_self ..)
  exact ⟨p,q,Below.trod hl h1 h2 hd hb (fun x hx=>hlt x (List.mem_append_left _ hx)),ih (fun t ht=>hr t (List.mem_cons_of_mem _ ht)) hrest (fun x hx=>hlt x (List.mem_append_right _ hx)),rfl⟩
theorem law_contract {P:Program} (hl:laidOutB P=true) {f:FuncId} {fn:Func} {s:ChangeSpec} (hvars:s.vars = []) {tb:TypeId} (hres:fn.resultTypes = #[tb]) (htb:P.underlying tb=some .bool)
  (hread:∀ t ∈ fn.params.toList,P.readableRec t=true/\t < P.types.size)
  {H:Type} {enc:TypeId × Value->H} {W:World} {args:Array Value} {ds gs:List (DataW H)} {before:List MemPlace}
  (hfn:ds.length=fn.params.size->s.fn H ds = { results:=[.lit (.bool true)],args:=ds })
  (hW:DataW.Whole enc P fn.params.toList s.vars false W args.toList ds gs before) {sp:CallSpec} (ht:Triple P f sp) (hp:sp.pre) (hfo:∀ E,sp.fnok E) (hin:sp.hin = []) (hout:sp.hout = []) (hr:sp.res=bv true)
  (hla:args.toList.length=sp.args.length) (hra:∀ k,Rel (envOf W) true (sp.args.getD k .any) (args.toList.getD k undef)) :
  Calls P f args W fun e W' => ∃ v,e = .returned v/\s.post enc P fn false true false false W args v W':=by
 have hok:=heapOK_of P W
 have h:=ht.2 hp (envOf W) W args.toList (hfo _) (by rw [hin]; exact hok) hla hra
 refine (h (by rw [hout]; intro p hp; cases hp)).mono fun e W' hpost => ?_
 obtain ⟨v,E',he,hh,hv,_⟩:=hpost
 rw [hr] at hv
 have hvt:v = .bool true:=by cases hv; rfl
 subst hvt
 have hb:Below W.heap.size W W':=⟨hh.os,hh.tape,hh.output,hh.size,fun k hk=>hh.pres k (by
  rintro (hc | ⟨q,hq,_⟩)
  ·exact absurd hk (Nat.not_lt.2 hc)
  ·rw [hin] at hq; cases hq)⟩
 refine ⟨_,he,?_⟩
 have hW':=hW
 obtain ⟨p,q,hA,hV,rfl,hz,hnd⟩:=hW
 rw [hvars] at hV
 obtain ⟨rfl,rfl⟩:=ChangeShapes.trodVars_none hV
 have hlen:ds.length=fn.params.size:=by
  have:∀ {ts:List TypeId} {vs:List Value} {ds:List (DataW H)} {ps:List MemPlace},DataW.TrodAll enc P W 0 (fun _=>true) true ts vs ds ps->ds.length=ts.length:=by
   intro ts
   induction ts with
   | nil=>intro vs ds ps h; obtain ⟨_,rfl,_⟩:=ChangeShapes.trodAll_nil h; rfl
   | cons t ts ih=>intro vs ds ps h; obtain ⟨_,_,_,_,_,_,rfl,rfl,rfl,_,hr⟩:=ChangeShapes.trodAll_cons h; simp [ih hr]
  simpa using this hA
 refine ⟨ds,[],p ++ [],[],p,[],hW',?_,?_,?_,hb.frame _,fun h=>by cases h⟩
 ·rw [List.append_nil,hfn hlen,hres]
  exact ChangeShapes.trodAll_mk1 (shut_bool htb true)
 ·rw [List.append_nil,hfn hlen]
  exact trodAll_below hl hb hread hA (fun x hx=>hW'.lt x (List.mem_append_left _ hx))
 ·rw [List.append_nil,hfn hlen,hvars]
  rfl
end Go.Ab
namespace Go.Ab
open Go Go.RowKit Go.Proofs Go.Sh Go.En
theorem dInt:Dec Try.prog 3 (fun n=>[iv n]) (fun n => -9223372036854775808<=n/\n<=9223372036854775807):=dec_int Try.underlying3
theorem dInts:Dec Try.prog 27 (fun l:List Int=>[aInts l]) (fun l=>l.length<=140737488355328) :=
 Dec.map (dec_slice (α:=Int) Try.underlying27 (by kernel_rfl) (by decide) (Nat.lt_of_lt_of_eq (by decide:0 < 8) (by kernel_rfl)) dInt) id (fun _ _=>rfl) (fun _ h=>h.1)
set_option maxRecDepth 100000
theorem laidOut:laidOutB Try.prog=true:=by kernel_rfl
section
variable {H:Type} {enc:TypeId × Value->H} {W:World} {base:Nat} {v:Value} {d:DataW H} {ps:List MemPlace}
theorem arg_struct {t:TypeId} {fs:Array Field} {α:Type} {c:α->List AV} {ok:α->Prop} (ht:Try.prog.underlying t=some (.struct fs)) (hD:Dec Try.prog t c ok) (hval:Value.okWide Try.prog W .any base t v) (hd:DataW.Trod enc Try.prog W 0 (fun _=>true) true t v d ps) (hw:∀ n ∈ d.weights Try.prog t,n<=reachBytes) :
  ∃ a,ok a/\Rel (envOf W) true (.agg (c a)) v:=by
 unfold Value.okWide at hval
 rw [ht] at hval
 obtain ⟨cs,rfl,_⟩:=hval
 obtain ⟨a,ha,hr⟩:=hD.arg (E:=envOf W) (fun _=>rfl) hd hw
 refine ⟨a,ha,?_⟩
 have h:=Rel.agg (hr true)
 simpa [Value.cells] using h
theorem arg_int (hval:Value.okWide Try.prog W .any base 3 v) (hd:DataW.Trod enc Try.prog W 0 (fun _=>true) true 3 v d ps):∃ n:Int,(-9223372036854775808<=n/\n<=9223372036854775807)/\Rel (envOf W) true (iv n) v:=by
 obtain ⟨n,rfl,_,_,hw⟩:=ChangeShapes.open_int Try.underlying3 hval hd
 exact ⟨n,lit_wf hw,.lit _⟩
end
theorem weights_part {H:Type} {ts:List TypeId} {ds:List (DataW H)} (h:(DataW.weightsEach Try.prog ts ds).all (· <= reachBytes)=true) {j:Nat} {t:TypeId} {d:DataW H} (ht:ts[j]? = some t) (hd:ds[j]? = some d):∀ n ∈ d.weights Try.prog t,n<=reachBytes:=by
 intro n hn
 have:=List.all_eq_true.1 h _ (DataW.weights_mem_each ht hd n hn)
 simpa using this
def ArgD (t:TypeId) (α:Type) (c:α->AV) (ok:α->Prop):Prop :=
 (Try.prog.readableRec t=true/\t < Try.prog.types.size) /\ ∀ {H:Type} {enc:TypeId × Value->H} {W:World} {base:Nat} {v:Value} {d:DataW H} {ps:List MemPlace},Value.okWide Try.prog W .any base t v->DataW.Trod enc Try.prog W 0 (fun _=>true) true t v d ps->(∀ n ∈ d.weights Try.prog t,n<=reachBytes) -> ∃ a,ok a/\Rel (envOf W) true (c a) v
abbrev i64 (n:Int):Prop := -9223372036854775808<=n/\n<=9223372036854775807
theorem argInt:ArgD 3 Int iv i64:=⟨⟨by kernel_rfl,of_decide_eq_true (by kernel_rfl)⟩,fun hv hd _=>arg_int hv hd⟩
theorem argStruct {t:TypeId} {fs:Array Field} {α:Type} {c:α->List AV} {ok:α->Prop} (ht:Try.prog.underlying t=some (.struct fs)) (hr:Try.prog.readableRec t=true/\t < Try.prog.types.size) (hD:Dec Try.prog t c ok):ArgD t α (fun a => .agg (c a)) ok:=⟨hr,fun hv hd hw=>arg_struct ht hD hv hd hw⟩
theorem law_three {f:FuncId} {fn:Func} {s:ChangeSpec} {t1 t2 t3:TypeId} {α β γ:Type} {c1:α->AV} {c2:β->AV} {c3:γ->AV} {ok1:α->Prop} {ok2:β->Prop} {ok3:γ->Prop} (h1:ArgD t1 α c1 ok1) (h2:ArgD t2 β c2 ok2) (h3:ArgD t3 γ c3 ok3)
  (hps:fn.params = #[t1,t2,t3]) (hres:fn.resultTypes = #[4]) (hvars:s.vars = []) (hfn:∀ (H:Type) (d1 d2 d3:DataW H),s.fn H [d1,d2,d3] = { results:=[.lit (.bool true)],args:=[d1,d2,d3] })
  (sp:α->β->γ->CallSpec) (ht:∀ r a b,Triple Try.prog f (sp r a b)) (hargs:∀ r a b,(sp r a b).args = [c1 r,c2 a,c3 b]) (hpre:∀ r a b,ok1 r->ok2 a->ok3 b->(sp r a b).pre)
  (hfo:∀ r a b E,(sp r a b).fnok E) (hin:∀ r a b,(sp r a b).hin = []) (hout:∀ r a b,(sp r a b).hout = []) (hr:∀ r a b,(sp r a b).res=bv true)
  {H:Type} {enc:TypeId × Value->H} {W:World} {base:Nat} {args:Array Value} {ds gs:List (DataW H)} {before:List MemPlace}
  (hval:∀ (j:Nat) t v,fn.params[j]? = some t->args[j]? = some v->Value.okWide Try.prog W .any base t v) (hW:DataW.Whole enc Try.prog fn.params.toList s.vars false W args.toList ds gs before)
  (hsz:(DataW.weightsEach Try.prog (fn.params.toList ++ s.plain.varTypes Try.prog) (ds ++ gs)).all (· <= reachBytes)=true) :
  Calls Try.prog f args W fun e W' => ∃ v,e = .returned v/\s.post enc Try.prog fn false true false false W args v W':=by
 have hW':=hW
 obtain ⟨p,q,hA,_,_,_,_⟩:=hW
 rw [hps] at hA hval hsz
 obtain ⟨v0,v1,v2,d0,d1,d2,p0,p1,p2,rfl,rfl,rfl,g0,g1,g2⟩:=ChangeShapes.trodAll_three hA
 obtain ⟨r,hr0,r0⟩:=h1.2 (hval 0 t1 v0 rfl rfl) g0 (weights_part hsz (j:=0) rfl rfl)
 obtain ⟨a,ha,r1⟩:=h2.2 (hval 1 t2 v1 rfl rfl) g1 (weights_part hsz (j:=1) rfl rfl)
 obtain ⟨b,hb,r2⟩:=h3.2 (hval 2 t3 v2 rfl rfl) g2 (weights_part hsz (j:=2) rfl rfl)
 refine law_contract laidOut hvars hres Try.underlying4 (fun t htt => ?_) (fun _=>hfn H d0 d1 d2) hW' (ht r a b) (hpre r a b hr0 ha hb) (hfo r a b) (hin r a b) (hout r a b) (hr r a b) (by rw [hargs]; rfl) (fun k => ?_)
 ·rw [hps] at htt
  have:t=t1 ∨ t=t2 ∨ t=t3:=by simpa using htt
  rcases this with rfl | rfl | rfl
  ·exact h1.1
  ·exact h2.1
  ·exact h3.1
 ·rw [hargs]
  rcases k with _ | _ | _ | k
  ·exact r0
  ·exact r1
  ·exact r2
  ·exact .any _
end Go.Ab
namespace Go.Ab
open Go Go.RowKit Go.Proofs Go.Sh Go.En
set_option maxRecDepth 100000
theorem dSpan:Dec Try.prog 36 cSpan (fun _=>True) :=
 Dec.map (dec_struct Try.underlying36 (sz:=2) (by kernel_rfl) (decFs_cons (mid:=1) rfl rfl (by kernel_rfl) dInt (decFs_cons (mid:=2) rfl rfl (by kernel_rfl) dInt decFs_nil))) (fun p=>(⟨p.1,p.2.1⟩:Span)) (fun _ _=>rfl) (fun _ _=>trivial)
theorem dStrip:Dec Try.prog 65 cStrip (fun _=>True) :=
 Dec.map (dec_struct Try.underlying65 (sz:=2) (by kernel_rfl) (decFs_cons (mid:=1) rfl rfl (by kernel_rfl) dInt (decFs_cons (mid:=2) rfl rfl (by kernel_rfl) dInt decFs_nil))) (fun p=>(⟨p.1,p.2.1⟩:Strip)) (fun _ _=>rfl) (fun _ _=>trivial)
theorem dPiece:Dec Try.prog 46 cPiece (fun _=>True) :=
 Dec.map (dec_struct Try.underlying46 (sz:=3) (by kernel_rfl) (decFs_cons (mid:=2) rfl rfl (by kernel_rfl) dSpan (decFs_cons (mid:=3) rfl rfl (by kernel_rfl) dInt decFs_nil))) (fun p=>(⟨p.1.lo,p.1.hi,p.2.1⟩:Piece)) (fun _ _=>rfl) (fun _ _=>trivial)
theorem dStrips:Dec Try.prog 22 (fun l:List Strip=>[.sl 2 l.length (fun i=>cStrip (l.getD i default))]) (fun l=>l.length<=140737488355328 /\ ∀ m,m ∈ l->True) :=
 dec_slice (α:=Strip) Try.underlying22 (by kernel_rfl) (by decide) (Nat.lt_of_lt_of_eq (by decide:0 < 16) (by kernel_rfl)) dStrip
theorem dPieces:Dec Try.prog 23 (fun l:List Piece=>[.sl 3 l.length (fun i=>cPiece (l.getD i default))]) (fun l=>l.length<=140737488355328 /\ ∀ m,m ∈ l->True) :=
 dec_slice (α:=Piece) Try.underlying23 (by kernel_rfl) (by decide) (Nat.lt_of_lt_of_eq (by decide:0 < 24) (by kernel_rfl)) dPiece
theorem dIntss:Dec Try.prog 24 (fun l:List (List Int)=>[aIntss l]) (fun l=>l.length<=140737488355328 /\ ∀ m,m ∈ l->m.length<=140737488355328) :=
 dec_slice (α:=List Int) Try.underlying24 (by kernel_rfl) (by decide) (Nat.lt_of_lt_of_eq (by decide:0 < 24) (by kernel_rfl)) dInts
theorem dFrm:Dec Try.prog 26 cFrm fitsF:=by
 refine Dec.map (dec_struct Try.underlying26 (sz:=5) (by kernel_rfl) (decFs_cons (mid:=1) rfl rfl (by kernel_rfl) dInt (decFs_cons (mid:=2) rfl rfl (by kernel_rfl) dInt (decFs_cons (mid:=3) rfl rfl (by kernel_rfl) dStrips (decFs_cons (mid:=4) rfl rfl (by kernel_rfl) dPieces (decFs_cons (mid:=5) rfl rfl (by kernel_rfl) dIntss decFs_nil)))))) (fun p=>(⟨p.1,p.2.1,p.2.2.1,p.2.2.2.1,p.2.2.2.2.1⟩:Frm)) (fun _ _=>rfl) (fun p h => ?_)
 obtain ⟨_,_,⟨h1,_⟩,⟨h2,_⟩,⟨h3,h4⟩,_⟩:=h
 refine ⟨Nat.le_trans h1 (by decide),Nat.le_trans h2 (by decide),Nat.le_trans h3 (by decide),fun i => ?_⟩
 show (p.2.2.2.2.1.getD i []).length<=_
 by_cases hi:i < p.2.2.2.2.1.length
 ·exact Nat.le_trans (h4 _ (getD_mem _ [] hi)) (by decide)
 ·rw [getD_ge _ _ (by omega)]; exact Nat.zero_le _
theorem argFrm:ArgD 26 Frm (fun f=>vFrm f) fitsF:=argStruct Try.underlying26 ⟨by kernel_rfl,of_decide_eq_true (by kernel_rfl)⟩ dFrm
end Go.Ab
namespace Go.Proofs.Ytpnmalddfpjcoaa
open Go Go.Ab Go.Sh Go.En Go.RowKit
set_option maxRecDepth 100000
theorem own:ownKnob Try.prog.godebug=none:=by kernel_rfl
def nilArgs:Array Value := #[.agg #[.int .i64 0,.int .i64 0,.slice none 0 0,.slice none 0 0,.slice none 0 0],.int .i64 0,.int .i64 0]
theorem lifted (os:Os) (started:os.Started) (H:Type) (enc:TypeId × Value->H) :
  ReturnsInHanded {} Try.checked os 8 .any (Rows.pagesMoreSpec.pre6 enc Try.prog Try.f8 Rows.pagesMoreRow.domain false) (Rows.pagesMoreSpec.post enc Try.prog Try.f8 false true false false):=by
 refine returnsInHanded_of_change_sized (C:=Try.checked) own started (by kernel_rfl) Try.func8
  (ChangeSpec.witness6 (enc:=enc) (C:=Try.checked) false ⟨#[],nilArgs,[]⟩ 8 (by kernel_rfl) (by kernel_rfl) (by kernel_rfl) (by kernel_rfl)) ?_
 intro W base args ds gs before hval hW _ hsz _
 exact law_three argFrm argInt argInt rfl rfl rfl (fun _ _ _ _=>rfl) s8 t8 (fun _ _ _=>rfl) (fun _ _ _ h0 h1 h2=>h0) (fun _ _ _ _=>trivial) (fun _ _ _=>rfl) (fun _ _ _=>rfl) (fun _ _ _=>rfl) hval hW hsz
theorem proved:Rows.PagesMoreSaid :=
 OpenClaim.holds_of_wide 8 Try.f8 rfl rfl rfl rfl rfl rfl rfl ⟨rfl,rfl,rfl,rfl,rfl⟩ rfl rfl rfl rfl rfl (by kernel_rfl) Try.func8 (by kernel_rfl)
  (of_decide_eq_true (by kernel_rfl)) (by unfold Func.isWrapper; first | (rw [if_pos (by decide +kernel)]; kernel_rfl) | (rw [if_neg (by decide +kernel)]; exact ⟨rfl,rfl⟩))
  (fun os started H enc _=>lifted os started H enc)
end Go.Proofs.Ytpnmalddfpjcoaa
