import Derived.Test.YteonagfnhdlfcaaGreatDoorTlStep
import Derived.Test.YteonagfnhdlfcaaGreatDoorG19PlR1
import Derived.Test.YteonagfnhdlfcaaGreatDoorG20PlR3M
import Derived.Test.YteonagfnhdlfcaaGreatDoorG29PlR5C
open List renaming map_append → qa, map_set → qb, not_mem_nil → qc, mem_cons → qd
set_option linter.unusedSimpArgs false
set_option linter.unusedVariables false
noncomputable section
namespace Go.TL
open Go
def zAO (x:zrs):List Leaf:=[.sc (.bool x.Ack),.sc (.int .i64 x.No),.sc (.string x.Text)]
@[go_sem] theorem zCr (x:zrs):zAO x=[.sc (.bool x.Ack),.sc (.int .i64 x.No),.sc (.string x.Text)]:=rfl
def zCs (x:zBm):List Leaf:=[.sc (.int .i64 x.Now),.sc (.bool x.Fine)]
@[go_sem] theorem zEM (x:zBm):zCs x=[.sc (.int .i64 x.Now),.sc (.bool x.Fine)]:=rfl
end Go.TL
namespace Go.TL
open Go
def zxT (x:ztb):List Leaf:=[.sc (.int .i64 x.Kind),.sc (.int .i64 x.K),.sc (.string x.Text)]
@[go_sem] theorem zBX (x:ztb):zxT x=[.sc (.int .i64 x.Kind),.sc (.int .i64 x.K),.sc (.string x.Text)]:=rfl
end Go.TL
namespace Go.TL
open Go
def zAP (x:zwU):List Leaf:=[.sc (.string x.Name),.sc (.int .i64 x.fVe),.sc (.string x.Note)]
@[go_sem] theorem zCt (x:zwU):zAP x=[.sc (.string x.Name),.sc (.int .i64 x.fVe),.sc (.string x.Note)]:=rfl
end Go.TL
namespace Go.TL
open Go
def zko (x:zka):List Leaf:=[.sc (.int .i64 x.Id),.sc (.int .i64 x.fVe),.sc (.int .i64 x.Kind),.sc (.string x.Name)]
@[go_sem] theorem zDA (x:zka):zko x=[.sc (.int .i64 x.Id),.sc (.int .i64 x.fVe),.sc (.int .i64 x.Kind),.sc (.string x.Name)]:=rfl
@[go_sem] theorem zBp (l:List zka):zoE (l.map zko)=True:=zpV (λ x l h=>by simp only [zko,qd,qc,or_false] at h;rcases h with rfl | rfl | rfl | rfl<;>exact ⟨_,rfl⟩) l
@[go_sem] theorem zyt (l:List zka) (v0:Int) (v1:Int) (v2:Int) (v3:ByteArray):l.map zko++[[.sc (.int .i64 v0),.sc (.int .i64 v1),.sc (.int .i64 v2),.sc (.string v3)]]=(l++[(⟨v0,v1,v2,v3⟩:zka)]).map zko:=by rw [qa];rfl
def zkf (x:zkd):List Leaf:=[.sl (x.fEv.map zko)]
@[go_sem] theorem zCu (x:zkd):zkf x=[.sl (x.fEv.map zko)]:=rfl
@[go_sem] theorem zxU (l:List zkd) (v0:(List zka)):l.map zkf++[[.sl (v0.map zko)]]=(l++[(⟨v0⟩:zkd)]).map zkf:=by rw [qa];rfl
end Go.TL
namespace Go.TL
open Go
end Go.TL
namespace Go.TL
open Go
end Go.TL
namespace Go.TL
open Go
def zkl (x:zkb):List Leaf:=[.sc (.int .i64 x.Id),.sc (.int .i64 x.fVe),.sl (x.fTe.fBr.map zkf)]
@[go_sem] theorem zCv (x:zkb):zkl x=[.sc (.int .i64 x.Id),.sc (.int .i64 x.fVe),.sl (x.fTe.fBr.map zkf)]:=rfl
@[go_sem] theorem zxV (l:List zkb) (i:Nat) (v0:Int) (v1:Int) (v2:(List zkd)):(l.map zkl).set i [.sc (.int .i64 v0),.sc (.int .i64 v1),.sl (v2.map zkf)]=(l.set i (⟨v0,v1,⟨v2⟩⟩:zkb)).map zkl:=by rw [qb];rfl
@[go_sem] theorem zxW (l:List zkb) (v0:Int) (v1:Int) (v2:(List zkd)):l.map zkl++[[.sc (.int .i64 v0),.sc (.int .i64 v1),.sl (v2.map zkf)]]=(l++[(⟨v0,v1,⟨v2⟩⟩:zkb)]).map zkl:=by rw [qa];rfl
def zkz (x:zkB):List Leaf:=[.sc (.int .i64 x.To),.sc (.int .i64 x.Word.fVe),.sl (x.Word.fTe.fBr.map zkf)]
@[go_sem] theorem zEN (x:zkB):zkz x=[.sc (.int .i64 x.To),.sc (.int .i64 x.Word.fVe),.sl (x.Word.fTe.fBr.map zkf)]:=rfl
@[go_sem] theorem zzq (l:List zkB) (i:Nat) (v0:Int) (v1:Int) (v2:(List zkd)):(l.map zkz).set i [.sc (.int .i64 v0),.sc (.int .i64 v1),.sl (v2.map zkf)]=(l.set i (⟨v0,⟨v1,⟨v2⟩⟩⟩:zkB)).map zkz:=by rw [qb];rfl
@[go_sem] theorem zzr (l:List zkB) (v0:Int) (v1:Int) (v2:(List zkd)):l.map zkz++[[.sc (.int .i64 v0),.sc (.int .i64 v1),.sl (v2.map zkf)]]=(l++[(⟨v0,⟨v1,⟨v2⟩⟩⟩:zkB)]).map zkz:=by rw [qa];rfl
end Go.TL
namespace Go.TL
open Go
end Go.TL
namespace Go.TL
open Go
end Go.TL
namespace Go.TL
open Go
end Go.TL
namespace Go.TL
open Go
def zCw (x:zBn):List Leaf:=[.sc (.int .i64 x.From),.sc (.int .i64 x.To),.sc (.int .i64 x.Many)]
@[go_sem] theorem zEO (x:zBn):zCw x=[.sc (.int .i64 x.From),.sc (.int .i64 x.To),.sc (.int .i64 x.Many)]:=rfl
end Go.TL
namespace Go.TL
open Go
end Go.TL
namespace Go.TL
open Go
end Go.TL
namespace Go.TL
open Go
end Go.TL
namespace Go.TL
open Go
end Go.TL
namespace Go.TL
open Go
def zxX (x:zkh):List Leaf:=[.sl (x.fBr.map zkf)]
@[go_sem] theorem zBY (x:zkh):zxX x=[.sl (x.fBr.map zkf)]:=rfl
end Go.TL
namespace Go.TL
open Go
end Go.TL
namespace Go.TL
open Go
end Go.TL
namespace Go.TL
open Go
end Go.TL
namespace Go.TL
open Go
def zlu (x:zks):List Leaf:=[.sc (.int .i64 x.Kind),.sc (.int .i64 x.Region),.sc (.int .i64 x.What),.sc (.string x.Name),.sc (.int .i64 x.K)]
@[go_sem] theorem zBq (x:zks):zlu x=[.sc (.int .i64 x.Kind),.sc (.int .i64 x.Region),.sc (.int .i64 x.What),.sc (.string x.Name),.sc (.int .i64 x.K)]:=rfl
@[go_sem] theorem zvC (l:List zks) (v0:Int) (v1:Int) (v2:Int) (v3:ByteArray) (v4:Int):l.map zlu++[[.sc (.int .i64 v0),.sc (.int .i64 v1),.sc (.int .i64 v2),.sc (.string v3),.sc (.int .i64 v4)]]=(l++[(⟨v0,v1,v2,v3,v4⟩:zks)]).map zlu:=by rw [qa];rfl
end Go.TL
namespace Go.TL
open Go
def zkT (x:zkv):List Leaf:=[.sc (.int .i64 x.Upto),.sc (.int .i64 x.fVe)]
@[go_sem] theorem zEP (x:zkv):zkT x=[.sc (.int .i64 x.Upto),.sc (.int .i64 x.fVe)]:=rfl
@[go_sem] theorem zBZ (l:List zkv):zoE (l.map zkT)=True:=zpV (λ x l h=>by simp only [zkT,qd,qc,or_false] at h;rcases h with rfl | rfl<;>exact ⟨_,rfl⟩) l
@[go_sem] theorem zzs (l:List zkv) (i:Nat) (v0:Int) (v1:Int):(l.map zkT).set i [.sc (.int .i64 v0),.sc (.int .i64 v1)]=(l.set i (⟨v0,v1⟩:zkv)).map zkT:=by rw [qb];rfl
@[go_sem] theorem zzt (l:List zkv) (v0:Int) (v1:Int):l.map zkT++[[.sc (.int .i64 v0),.sc (.int .i64 v1)]]=(l++[(⟨v0,v1⟩:zkv)]).map zkT:=by rw [qa];rfl
end Go.TL
