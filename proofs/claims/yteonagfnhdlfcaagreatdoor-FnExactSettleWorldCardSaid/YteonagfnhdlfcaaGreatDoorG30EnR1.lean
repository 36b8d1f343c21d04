import Derived.Test.YteonagfnhdlfcaaGreatDoorTlStep
import Derived.Test.YteonagfnhdlfcaaGreatDoorG19PlR1
import Derived.Test.YteonagfnhdlfcaaGreatDoorG20PlR3M
import Derived.Test.YteonagfnhdlfcaaGreatDoorG29PlR5C
open List renaming map_replicate → qa, map_append → qb, map_set → qc
set_option linter.unusedSimpArgs false
set_option linter.unusedVariables false
noncomputable section
namespace Go.TL
open Go
def zBD (x:zsC):List Leaf:=[.sc (.bool x.Ack),.sc (.int .i64 x.No),.sc (.string x.Text)]
@[go_sem] theorem zC8 (x:zsC):zBD x=[.sc (.bool x.Ack),.sc (.int .i64 x.No),.sc (.string x.Text)]:=rfl
def zC9 (x:zB4):List Leaf:=[.sc (.int .i64 x.Now),.sc (.bool x.Fine)]
@[go_sem] theorem zFq (x:zB4):zC9 x=[.sc (.int .i64 x.Now),.sc (.bool x.Fine)]:=rfl
end Go.TL
namespace Go.TL
open Go
def zy8 (x:zul):List Leaf:=[.sc (.int .i64 x.Kind),.sc (.int .i64 x.K),.sc (.string x.Text)]
@[go_sem] theorem zCD (x:zul):zy8 x=[.sc (.int .i64 x.Kind),.sc (.int .i64 x.K),.sc (.string x.Text)]:=rfl
end Go.TL
namespace Go.TL
open Go
def zBE (x:zx7):List Leaf:=[.sc (.string x.Name),.sc (.int .i64 x.fVe),.sc (.string x.Note)]
@[go_sem] theorem zDa (x:zx7):zBE x=[.sc (.string x.Name),.sc (.int .i64 x.fVe),.sc (.string x.Note)]:=rfl
end Go.TL
namespace Go.TL
open Go
def zlk (x:EventT):List Leaf:=[.sc (.int .i64 x.Id),.sc (.int .i64 x.fVe),.sc (.int .i64 x.Kind),.sc (.string x.Name)]
@[go_sem] theorem zEj (x:EventT):zlk x=[.sc (.int .i64 x.Id),.sc (.int .i64 x.fVe),.sc (.int .i64 x.Kind),.sc (.string x.Name)]:=rfl
@[go_sem] theorem zB9 (l:List EventT):zqE (l.map zlk)=True:=zvO (λ x l h=>by simp only [zlk,List.mem_cons,List.not_mem_nil,or_false] at h;rcases h with rfl | rfl | rfl | rfl<;>exact ⟨_,rfl⟩) l
@[go_sem] theorem zzx (l:List EventT) (i:Nat) (v0:Int) (v1:Int) (v2:Int) (v3:ByteArray):(l.map zlk).set i [.sc (.int .i64 v0),.sc (.int .i64 v1),.sc (.int .i64 v2),.sc (.string v3)]=(l.set i (⟨v0,v1,v2,v3⟩:EventT)).map zlk:=by rw [qc];rfl
@[go_sem] theorem zzy (l:List EventT) (v0:Int) (v1:Int) (v2:Int) (v3:ByteArray):l.map zlk++[[.sc (.int .i64 v0),.sc (.int .i64 v1),.sc (.int .i64 v2),.sc (.string v3)]]=(l++[(⟨v0,v1,v2,v3⟩:EventT)]).map zlk:=by rw [qb];rfl
theorem zlA (n:Nat):List.replicate n [.sc (.int .i64 0),.sc (.int .i64 0),.sc (.int .i64 0),.sc (.string ByteArray.empty)]=(List.replicate n (⟨0,0,0,ByteArray.empty⟩:EventT)).map zlk:=by rw [qa];rfl
def zlc (x:BranchT):List Leaf:=[.sl (x.fEv.map zlk)]
@[go_sem] theorem zDb (x:BranchT):zlc x=[.sl (x.fEv.map zlk)]:=rfl
@[go_sem] theorem zy9 (l:List BranchT) (i:Nat) (v0:(List EventT)):(l.map zlc).set i [.sl (v0.map zlk)]=(l.set i (⟨v0⟩:BranchT)).map zlc:=by rw [qc];rfl
@[go_sem] theorem zza (l:List BranchT) (v0:(List EventT)):l.map zlc++[[.sl (v0.map zlk)]]=(l++[(⟨v0⟩:BranchT)]).map zlc:=by rw [qb];rfl
theorem zlw (n:Nat):List.replicate n [.sl []]=(List.replicate n (⟨[]⟩:BranchT)).map zlc:=by rw [qa];rfl
end Go.TL
namespace Go.TL
open Go
end Go.TL
namespace Go.TL
open Go
end Go.TL
namespace Go.TL
open Go
def zlj (x:RegionT):List Leaf:=[.sc (.int .i64 x.Id),.sc (.int .i64 x.fVe),.sl (x.fTe.fBr.map zlc)]
@[go_sem] theorem zDc (x:RegionT):zlj x=[.sc (.int .i64 x.Id),.sc (.int .i64 x.fVe),.sl (x.fTe.fBr.map zlc)]:=rfl
@[go_sem] theorem zzb (l:List RegionT) (i:Nat) (v0:Int) (v1:Int) (v2:(List BranchT)):(l.map zlj).set i [.sc (.int .i64 v0),.sc (.int .i64 v1),.sl (v2.map zlc)]=(l.set i (⟨v0,v1,⟨v2⟩⟩:RegionT)).map zlj:=by rw [qc];rfl
@[go_sem] theorem zzc (l:List RegionT) (v0:Int) (v1:Int) (v2:(List BranchT)):l.map zlj++[[.sc (.int .i64 v0),.sc (.int .i64 v1),.sl (v2.map zlc)]]=(l++[(⟨v0,v1,⟨v2⟩⟩:RegionT)]).map zlj:=by rw [qb];rfl
theorem zlx (n:Nat):List.replicate n [.sc (.int .i64 0),.sc (.int .i64 0),.sl []]=(List.replicate n (⟨0,0,(⟨[]⟩:TellingsT)⟩:RegionT)).map zlj:=by rw [qa];rfl
def zlz (x:SaidT):List Leaf:=[.sc (.int .i64 x.To),.sc (.int .i64 x.Word.fVe),.sl (x.Word.fTe.fBr.map zlc)]
@[go_sem] theorem zFr (x:SaidT):zlz x=[.sc (.int .i64 x.To),.sc (.int .i64 x.Word.fVe),.sl (x.Word.fTe.fBr.map zlc)]:=rfl
@[go_sem] theorem zAu (l:List SaidT) (i:Nat) (v0:Int) (v1:Int) (v2:(List BranchT)):(l.map zlz).set i [.sc (.int .i64 v0),.sc (.int .i64 v1),.sl (v2.map zlc)]=(l.set i (⟨v0,⟨v1,⟨v2⟩⟩⟩:SaidT)).map zlz:=by rw [qc];rfl
@[go_sem] theorem zAv (l:List SaidT) (v0:Int) (v1:Int) (v2:(List BranchT)):l.map zlz++[[.sc (.int .i64 v0),.sc (.int .i64 v1),.sl (v2.map zlc)]]=(l++[(⟨v0,⟨v1,⟨v2⟩⟩⟩:SaidT)]).map zlz:=by rw [qb];rfl
theorem zlE (n:Nat):List.replicate n [.sc (.int .i64 0),.sc (.int .i64 0),.sl []]=(List.replicate n (⟨0,(⟨0,(⟨[]⟩:TellingsT)⟩:WordT)⟩:SaidT)).map zlz:=by rw [qa];rfl
end Go.TL
namespace Go.TL
open Go
end Go.TL
namespace Go.TL
open Go
end Go.TL
namespace Go.TL
open Go
end Go.TL
namespace Go.TL
open Go
def zDd (x:zB5):List Leaf:=[.sc (.int .i64 x.From),.sc (.int .i64 x.To),.sc (.int .i64 x.Many)]
@[go_sem] theorem zFs (x:zB5):zDd x=[.sc (.int .i64 x.From),.sc (.int .i64 x.To),.sc (.int .i64 x.Many)]:=rfl
end Go.TL
namespace Go.TL
open Go
end Go.TL
namespace Go.TL
open Go
end Go.TL
namespace Go.TL
open Go
end Go.TL
namespace Go.TL
open Go
end Go.TL
namespace Go.TL
open Go
def zuw (x:TellingsT):List Leaf:=[.sl (x.fBr.map zlc)]
@[go_sem] theorem zCE (x:TellingsT):zuw x=[.sl (x.fBr.map zlc)]:=rfl
end Go.TL
namespace Go.TL
open Go
end Go.TL
namespace Go.TL
open Go
end Go.TL
namespace Go.TL
open Go
end Go.TL
