import Derived.Test.YteonagfnhdlfcaaGreatDoorTlStep
import Derived.Test.YteonagfnhdlfcaaGreatDoorG19PlR1
import Derived.Test.YteonagfnhdlfcaaGreatDoorG20PlR3M
import Derived.Test.YteonagfnhdlfcaaGreatDoorG29PlR5C
set_option linter.unusedSimpArgs false
set_option linter.unusedVariables false
namespace Go.TL
open Go
def ePacket (x : PacketT) : List Leaf := [.sc (.bool x.Ack),.sc (.int .i64 x.No),.sc (.string x.Text)]
@[go_sem] theorem ePacket_ (x : PacketT) : ePacket x = [.sc (.bool x.Ack),.sc (.int .i64 x.No),.sc (.string x.Text)] := rfl
@[go_sem] theorem flat_ePacket (l : List PacketT) : flatR (l.map ePacket) = True := flat_map (fun x l h => by simp only [ePacket,List.mem_cons,List.not_mem_nil,or_false] at h; rcases h with rfl | rfl | rfl <;> exact ⟨_,rfl⟩) l
@[go_sem] theorem fold_ePacket_set (l : List PacketT) (i : Nat) (v0 : Bool) (v1 : Int) (v2 : ByteArray) : (l.map ePacket).set i [.sc (.bool v0),.sc (.int .i64 v1),.sc (.string v2)] = (l.set i (⟨v0,v1,v2⟩ : PacketT)).map ePacket := by rw [List.map_set]; rfl
@[go_sem] theorem fold_ePacket_app (l : List PacketT) (v0 : Bool) (v1 : Int) (v2 : ByteArray) : l.map ePacket ++ [[.sc (.bool v0),.sc (.int .i64 v1),.sc (.string v2)]] = (l ++ [(⟨v0,v1,v2⟩ : PacketT)]).map ePacket := by rw [List.map_append]; rfl
def eCall (x : CallT) : List Leaf := [.sc (.int .i64 x.Now),.sc (.bool x.Fine)]
@[go_sem] theorem eCall_ (x : CallT) : eCall x = [.sc (.int .i64 x.Now),.sc (.bool x.Fine)] := rfl
@[go_sem] theorem flat_eCall (l : List CallT) : flatR (l.map eCall) = True := flat_map (fun x l h => by simp only [eCall,List.mem_cons,List.not_mem_nil,or_false] at h; rcases h with rfl | rfl <;> exact ⟨_,rfl⟩) l
@[go_sem] theorem fold_eCall_set (l : List CallT) (i : Nat) (v0 : Int) (v1 : Bool) : (l.map eCall).set i [.sc (.int .i64 v0),.sc (.bool v1)] = (l.set i (⟨v0,v1⟩ : CallT)).map eCall := by rw [List.map_set]; rfl
@[go_sem] theorem fold_eCall_app (l : List CallT) (v0 : Int) (v1 : Bool) : l.map eCall ++ [[.sc (.int .i64 v0),.sc (.bool v1)]] = (l ++ [(⟨v0,v1⟩ : CallT)]).map eCall := by rw [List.map_append]; rfl
end Go.TL
namespace Go.TL
open Go
def eLineStep (x : LineStepT) : List Leaf := [.sc (.int .i64 x.Kind),.sc (.int .i64 x.K),.sc (.string x.Text)]
@[go_sem] theorem eLineStep_ (x : LineStepT) : eLineStep x = [.sc (.int .i64 x.Kind),.sc (.int .i64 x.K),.sc (.string x.Text)] := rfl
@[go_sem] theorem flat_eLineStep (l : List LineStepT) : flatR (l.map eLineStep) = True := flat_map (fun x l h => by simp only [eLineStep,List.mem_cons,List.not_mem_nil,or_false] at h; rcases h with rfl | rfl | rfl <;> exact ⟨_,rfl⟩) l
@[go_sem] theorem fold_eLineStep_set (l : List LineStepT) (i : Nat) (v0 : Int) (v1 : Int) (v2 : ByteArray) : (l.map eLineStep).set i [.sc (.int .i64 v0),.sc (.int .i64 v1),.sc (.string v2)] = (l.set i (⟨v0,v1,v2⟩ : LineStepT)).map eLineStep := by rw [List.map_set]; rfl
@[go_sem] theorem fold_eLineStep_app (l : List LineStepT) (v0 : Int) (v1 : Int) (v2 : ByteArray) : l.map eLineStep ++ [[.sc (.int .i64 v0),.sc (.int .i64 v1),.sc (.string v2)]] = (l ++ [(⟨v0,v1,v2⟩ : LineStepT)]).map eLineStep := by rw [List.map_append]; rfl
end Go.TL
namespace Go.TL
open Go
def eDomain (x : DomainT) : List Leaf := [.sc (.string x.Name),.sc (.int .i64 x.Version),.sc (.string x.Note)]
@[go_sem] theorem eDomain_ (x : DomainT) : eDomain x = [.sc (.string x.Name),.sc (.int .i64 x.Version),.sc (.string x.Note)] := rfl
@[go_sem] theorem flat_eDomain (l : List DomainT) : flatR (l.map eDomain) = True := flat_map (fun x l h => by simp only [eDomain,List.mem_cons,List.not_mem_nil,or_false] at h; rcases h with rfl | rfl | rfl <;> exact ⟨_,rfl⟩) l
@[go_sem] theorem fold_eDomain_set (l : List DomainT) (i : Nat) (v0 : ByteArray) (v1 : Int) (v2 : ByteArray) : (l.map eDomain).set i [.sc (.string v0),.sc (.int .i64 v1),.sc (.string v2)] = (l.set i (⟨v0,v1,v2⟩ : DomainT)).map eDomain := by rw [List.map_set]; rfl
@[go_sem] theorem fold_eDomain_app (l : List DomainT) (v0 : ByteArray) (v1 : Int) (v2 : ByteArray) : l.map eDomain ++ [[.sc (.string v0),.sc (.int .i64 v1),.sc (.string v2)]] = (l ++ [(⟨v0,v1,v2⟩ : DomainT)]).map eDomain := by rw [List.map_append]; rfl
end Go.TL
namespace Go.TL
open Go
def eEvent (x : EventT) : List Leaf := [.sc (.int .i64 x.Id),.sc (.int .i64 x.Version),.sc (.int .i64 x.Kind),.sc (.string x.Name)]
@[go_sem] theorem eEvent_ (x : EventT) : eEvent x = [.sc (.int .i64 x.Id),.sc (.int .i64 x.Version),.sc (.int .i64 x.Kind),.sc (.string x.Name)] := rfl
@[go_sem] theorem flat_eEvent (l : List EventT) : flatR (l.map eEvent) = True := flat_map (fun x l h => by simp only [eEvent,List.mem_cons,List.not_mem_nil,or_false] at h; rcases h with rfl | rfl | rfl | rfl <;> exact ⟨_,rfl⟩) l
@[go_sem] theorem fold_eEvent_set (l : List EventT) (i : Nat) (v0 : Int) (v1 : Int) (v2 : Int) (v3 : ByteArray) : (l.map eEvent).set i [.sc (.int .i64 v0),.sc (.int .i64 v1),.sc (.int .i64 v2),.sc (.string v3)] = (l.set i (⟨v0,v1,v2,v3⟩ : EventT)).map eEvent := by rw [List.map_set]; rfl
@[go_sem] theorem fold_eEvent_app (l : List EventT) (v0 : Int) (v1 : Int) (v2 : Int) (v3 : ByteArray) : l.map eEvent ++ [[.sc (.int .i64 v0),.sc (.int .i64 v1),.sc (.int .i64 v2),.sc (.string v3)]] = (l ++ [(⟨v0,v1,v2,v3⟩ : EventT)]).map eEvent := by rw [List.map_append]; rfl
def eBranch (x : BranchT) : List Leaf := [.sl (x.Events.map eEvent)]
@[go_sem] theorem eBranch_ (x : BranchT) : eBranch x = [.sl (x.Events.map eEvent)] := rfl
@[go_sem] theorem fold_eBranch_set (l : List BranchT) (i : Nat) (v0 : (List EventT)) : (l.map eBranch).set i [.sl (v0.map eEvent)] = (l.set i (⟨v0⟩ : BranchT)).map eBranch := by rw [List.map_set]; rfl
@[go_sem] theorem fold_eBranch_app (l : List BranchT) (v0 : (List EventT)) : l.map eBranch ++ [[.sl (v0.map eEvent)]] = (l ++ [(⟨v0⟩ : BranchT)]).map eBranch := by rw [List.map_append]; rfl
end Go.TL
namespace Go.TL
open Go
end Go.TL
namespace Go.TL
open Go
end Go.TL
namespace Go.TL
open Go
def eRegion (x : RegionT) : List Leaf := [.sc (.int .i64 x.Id),.sc (.int .i64 x.Version),.sl (x.Tellings.Branches.map eBranch)]
@[go_sem] theorem eRegion_ (x : RegionT) : eRegion x = [.sc (.int .i64 x.Id),.sc (.int .i64 x.Version),.sl (x.Tellings.Branches.map eBranch)] := rfl
@[go_sem] theorem fold_eRegion_set (l : List RegionT) (i : Nat) (v0 : Int) (v1 : Int) (v2 : (List BranchT)) : (l.map eRegion).set i [.sc (.int .i64 v0),.sc (.int .i64 v1),.sl (v2.map eBranch)] = (l.set i (⟨v0,v1,⟨v2⟩⟩ : RegionT)).map eRegion := by rw [List.map_set]; rfl
@[go_sem] theorem fold_eRegion_app (l : List RegionT) (v0 : Int) (v1 : Int) (v2 : (List BranchT)) : l.map eRegion ++ [[.sc (.int .i64 v0),.sc (.int .i64 v1),.sl (v2.map eBranch)]] = (l ++ [(⟨v0,v1,⟨v2⟩⟩ : RegionT)]).map eRegion := by rw [List.map_append]; rfl
def eSaid (x : SaidT) : List Leaf := [.sc (.int .i64 x.To),.sc (.int .i64 x.Word.Version),.sl (x.Word.Tellings.Branches.map eBranch)]
@[go_sem] theorem eSaid_ (x : SaidT) : eSaid x = [.sc (.int .i64 x.To),.sc (.int .i64 x.Word.Version),.sl (x.Word.Tellings.Branches.map eBranch)] := rfl
@[go_sem] theorem fold_eSaid_set (l : List SaidT) (i : Nat) (v0 : Int) (v1 : Int) (v2 : (List BranchT)) : (l.map eSaid).set i [.sc (.int .i64 v0),.sc (.int .i64 v1),.sl (v2.map eBranch)] = (l.set i (⟨v0,⟨v1,⟨v2⟩⟩⟩ : SaidT)).map eSaid := by rw [List.map_set]; rfl
@[go_sem] theorem fold_eSaid_app (l : List SaidT) (v0 : Int) (v1 : Int) (v2 : (List BranchT)) : l.map eSaid ++ [[.sc (.int .i64 v0),.sc (.int .i64 v1),.sl (v2.map eBranch)]] = (l ++ [(⟨v0,⟨v1,⟨v2⟩⟩⟩ : SaidT)]).map eSaid := by rw [List.map_append]; rfl
end Go.TL
namespace Go.TL
open Go
end Go.TL
namespace Go.TL
open Go
end Go.TL
namespace Go.TL
open Go
end Go.TL
namespace Go.TL
open Go
def eMove (x : MoveT) : List Leaf := [.sc (.int .i64 x.From),.sc (.int .i64 x.To),.sc (.int .i64 x.Many)]
@[go_sem] theorem eMove_ (x : MoveT) : eMove x = [.sc (.int .i64 x.From),.sc (.int .i64 x.To),.sc (.int .i64 x.Many)] := rfl
@[go_sem] theorem flat_eMove (l : List MoveT) : flatR (l.map eMove) = True := flat_map (fun x l h => by simp only [eMove,List.mem_cons,List.not_mem_nil,or_false] at h; rcases h with rfl | rfl | rfl <;> exact ⟨_,rfl⟩) l
@[go_sem] theorem fold_eMove_set (l : List MoveT) (i : Nat) (v0 : Int) (v1 : Int) (v2 : Int) : (l.map eMove).set i [.sc (.int .i64 v0),.sc (.int .i64 v1),.sc (.int .i64 v2)] = (l.set i (⟨v0,v1,v2⟩ : MoveT)).map eMove := by rw [List.map_set]; rfl
@[go_sem] theorem fold_eMove_app (l : List MoveT) (v0 : Int) (v1 : Int) (v2 : Int) : l.map eMove ++ [[.sc (.int .i64 v0),.sc (.int .i64 v1),.sc (.int .i64 v2)]] = (l ++ [(⟨v0,v1,v2⟩ : MoveT)]).map eMove := by rw [List.map_append]; rfl
end Go.TL
namespace Go.TL
open Go
end Go.TL
namespace Go.TL
open Go
end Go.TL
namespace Go.TL
open Go
end Go.TL
namespace Go.TL
open Go
end Go.TL
namespace Go.TL
open Go
def eTellings (x : TellingsT) : List Leaf := [.sl (x.Branches.map eBranch)]
@[go_sem] theorem eTellings_ (x : TellingsT) : eTellings x = [.sl (x.Branches.map eBranch)] := rfl
@[go_sem] theorem fold_eTellings_set (l : List TellingsT) (i : Nat) (v0 : (List BranchT)) : (l.map eTellings).set i [.sl (v0.map eBranch)] = (l.set i (⟨v0⟩ : TellingsT)).map eTellings := by rw [List.map_set]; rfl
@[go_sem] theorem fold_eTellings_app (l : List TellingsT) (v0 : (List BranchT)) : l.map eTellings ++ [[.sl (v0.map eBranch)]] = (l ++ [(⟨v0⟩ : TellingsT)]).map eTellings := by rw [List.map_append]; rfl
end Go.TL
namespace Go.TL
open Go
end Go.TL
namespace Go.TL
open Go
end Go.TL
namespace Go.TL
open Go
end Go.TL
