import Derived.Test.YteonagfnhdlfcaaGreatDoorTlStep
import Derived.Test.YteonagfnhdlfcaaGreatDoorG19PlR1
import Derived.Test.YteonagfnhdlfcaaGreatDoorG20PlR3M
import Derived.Test.YteonagfnhdlfcaaGreatDoorG29PlR5C
open List renaming map_append → qa, map_set → qb, not_mem_nil → qc, mem_cons → qd
set_option linter.unusedSimpArgs false
set_option linter.unusedVariables false
noncomputable section
namespace Go.TL
open Go
def zAC (x:zq1):List Leaf:=[.sc (.bool x.Ack),.sc (.int .i64 x.No),.sc (.string x.Text)]
@[go_sem] theorem zCh (x:zq1):zAC x=[.sc (.bool x.Ack),.sc (.int .i64 x.No),.sc (.string x.Text)]:=rfl
def zCi (x:zBa):List Leaf:=[.sc (.int .i64 x.Now),.sc (.bool x.Fine)]
@[go_sem] theorem zEz (x:zBa):zCi x=[.sc (.int .i64 x.Now),.sc (.bool x.Fine)]:=rfl
end Go.TL
namespace Go.TL
open Go
def zxP (x:zsT):List Leaf:=[.sc (.int .i64 x.Kind),.sc (.int .i64 x.K),.sc (.string x.Text)]
@[go_sem] theorem zBP (x:zsT):zxP x=[.sc (.int .i64 x.Kind),.sc (.int .i64 x.K),.sc (.string x.Text)]:=rfl
end Go.TL
namespace Go.TL
open Go
def zAD (x:zwT):List Leaf:=[.sc (.string x.Name),.sc (.int .i64 x.fVe),.sc (.string x.Note)]
@[go_sem] theorem zCj (x:zwT):zAD x=[.sc (.string x.Name),.sc (.int .i64 x.fVe),.sc (.string x.Note)]:=rfl
end Go.TL
namespace Go.TL
open Go
def zjU (x:EventT):List Leaf:=[.sc (.int .i64 x.Id),.sc (.int .i64 x.fVe),.sc (.int .i64 x.Kind),.sc (.string x.Name)]
@[go_sem] theorem zDr (x:EventT):zjU x=[.sc (.int .i64 x.Id),.sc (.int .i64 x.fVe),.sc (.int .i64 x.Kind),.sc (.string x.Name)]:=rfl
@[go_sem] theorem zBf (l:List EventT):zn7 (l.map zjU)=True:=zpt (λ x l h=>by simp only [zjU,qd,qc,or_false] at h;rcases h with rfl | rfl | rfl | rfl<;>exact ⟨_,rfl⟩) l
@[go_sem] theorem zym (l:List EventT) (i:Nat) (v0:Int) (v1:Int) (v2:Int) (v3:ByteArray):(l.map zjU).set i [.sc (.int .i64 v0),.sc (.int .i64 v1),.sc (.int .i64 v2),.sc (.string v3)]=(l.set i (⟨v0,v1,v2,v3⟩:EventT)).map zjU:=by rw [qb];rfl
@[go_sem] theorem zyn (l:List EventT) (v0:Int) (v1:Int) (v2:Int) (v3:ByteArray):l.map zjU++[[.sc (.int .i64 v0),.sc (.int .i64 v1),.sc (.int .i64 v2),.sc (.string v3)]]=(l++[(⟨v0,v1,v2,v3⟩:EventT)]).map zjU:=by rw [qa];rfl
def zjN (x:BranchT):List Leaf:=[.sl (x.fEv.map zjU)]
@[go_sem] theorem zCk (x:BranchT):zjN x=[.sl (x.fEv.map zjU)]:=rfl
@[go_sem] theorem zxQ (l:List BranchT) (i:Nat) (v0:(List EventT)):(l.map zjN).set i [.sl (v0.map zjU)]=(l.set i (⟨v0⟩:BranchT)).map zjN:=by rw [qb];rfl
@[go_sem] theorem zxR (l:List BranchT) (v0:(List EventT)):l.map zjN++[[.sl (v0.map zjU)]]=(l++[(⟨v0⟩:BranchT)]).map zjN:=by rw [qa];rfl
end Go.TL
namespace Go.TL
open Go
end Go.TL
namespace Go.TL
open Go
end Go.TL
namespace Go.TL
open Go
def zjS (x:RegionT):List Leaf:=[.sc (.int .i64 x.Id),.sc (.int .i64 x.fVe),.sl (x.fTe.fBr.map zjN)]
@[go_sem] theorem zCl (x:RegionT):zjS x=[.sc (.int .i64 x.Id),.sc (.int .i64 x.fVe),.sl (x.fTe.fBr.map zjN)]:=rfl
@[go_sem] theorem zxS (l:List RegionT) (i:Nat) (v0:Int) (v1:Int) (v2:(List BranchT)):(l.map zjS).set i [.sc (.int .i64 v0),.sc (.int .i64 v1),.sl (v2.map zjN)]=(l.set i (⟨v0,v1,⟨v2⟩⟩:RegionT)).map zjS:=by rw [qb];rfl
@[go_sem] theorem zxT (l:List RegionT) (v0:Int) (v1:Int) (v2:(List BranchT)):l.map zjS++[[.sc (.int .i64 v0),.sc (.int .i64 v1),.sl (v2.map zjN)]]=(l++[(⟨v0,v1,⟨v2⟩⟩:RegionT)]).map zjS:=by rw [qa];rfl
def zj5 (x:SaidT):List Leaf:=[.sc (.int .i64 x.To),.sc (.int .i64 x.Word.fVe),.sl (x.Word.fTe.fBr.map zjN)]
@[go_sem] theorem zEA (x:SaidT):zj5 x=[.sc (.int .i64 x.To),.sc (.int .i64 x.Word.fVe),.sl (x.Word.fTe.fBr.map zjN)]:=rfl
@[go_sem] theorem zzk (l:List SaidT) (i:Nat) (v0:Int) (v1:Int) (v2:(List BranchT)):(l.map zj5).set i [.sc (.int .i64 v0),.sc (.int .i64 v1),.sl (v2.map zjN)]=(l.set i (⟨v0,⟨v1,⟨v2⟩⟩⟩:SaidT)).map zj5:=by rw [qb];rfl
@[go_sem] theorem zzl (l:List SaidT) (v0:Int) (v1:Int) (v2:(List BranchT)):l.map zj5++[[.sc (.int .i64 v0),.sc (.int .i64 v1),.sl (v2.map zjN)]]=(l++[(⟨v0,⟨v1,⟨v2⟩⟩⟩:SaidT)]).map zj5:=by rw [qa];rfl
end Go.TL
namespace Go.TL
open Go
end Go.TL
namespace Go.TL
open Go
end Go.TL
namespace Go.TL
open Go
end Go.TL
namespace Go.TL
open Go
def zCm (x:zBb):List Leaf:=[.sc (.int .i64 x.From),.sc (.int .i64 x.To),.sc (.int .i64 x.Many)]
@[go_sem] theorem zEB (x:zBb):zCm x=[.sc (.int .i64 x.From),.sc (.int .i64 x.To),.sc (.int .i64 x.Many)]:=rfl
end Go.TL
namespace Go.TL
open Go
end Go.TL
namespace Go.TL
open Go
end Go.TL
namespace Go.TL
open Go
end Go.TL
namespace Go.TL
open Go
end Go.TL
namespace Go.TL
open Go
def zxU (x:TellingsT):List Leaf:=[.sl (x.fBr.map zjN)]
@[go_sem] theorem zBQ (x:TellingsT):zxU x=[.sl (x.fBr.map zjN)]:=rfl
end Go.TL
namespace Go.TL
open Go
end Go.TL
namespace Go.TL
open Go
end Go.TL
namespace Go.TL
open Go
end Go.TL
namespace Go.TL
open Go
def zj4 (x:WorldStepT):List Leaf:=[.sc (.int .i64 x.Kind),.sc (.int .i64 x.Region),.sc (.int .i64 x.What),.sc (.string x.Name),.sc (.int .i64 x.K)]
@[go_sem] theorem zBg (x:WorldStepT):zj4 x=[.sc (.int .i64 x.Kind),.sc (.int .i64 x.Region),.sc (.int .i64 x.What),.sc (.string x.Name),.sc (.int .i64 x.K)]:=rfl
@[go_sem] theorem zyo (l:List WorldStepT):zn7 (l.map zj4)=True:=zpt (λ x l h=>by simp only [zj4,qd,qc,or_false] at h;rcases h with rfl | rfl | rfl | rfl | rfl<;>exact ⟨_,rfl⟩) l
@[go_sem] theorem zvu (l:List WorldStepT) (i:Nat) (v0:Int) (v1:Int) (v2:Int) (v3:ByteArray) (v4:Int):(l.map zj4).set i [.sc (.int .i64 v0),.sc (.int .i64 v1),.sc (.int .i64 v2),.sc (.string v3),.sc (.int .i64 v4)]=(l.set i (⟨v0,v1,v2,v3,v4⟩:WorldStepT)).map zj4:=by rw [qb];rfl
@[go_sem] theorem zvv (n:Nat):List.replicate n [.sc (.int .i64 0),.sc (.int .i64 0),.sc (.int .i64 0),.sc (.string ByteArray.empty),.sc (.int .i64 0)]=(List.replicate n (⟨0,0,0,ByteArray.empty,0⟩:WorldStepT)).map zj4:=by rw [List.map_replicate];rfl
end Go.TL
namespace Go.TL
open Go
def zCn (x:zBe):List Leaf:=[.sc (.int .i64 x.Upto),.sc (.int .i64 x.fVe)]
@[go_sem] theorem zEC (x:zBe):zCn x=[.sc (.int .i64 x.Upto),.sc (.int .i64 x.fVe)]:=rfl
end Go.TL
