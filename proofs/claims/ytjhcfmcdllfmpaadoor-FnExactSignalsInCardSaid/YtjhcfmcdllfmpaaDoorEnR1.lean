import Derived.Test.YtjhcfmcdllfmpaaDoorTlStep
import Derived.Test.YtjhcfmcdllfmpaaDoorPlR1
set_option linter.unusedSimpArgs false
set_option linter.unusedVariables false
namespace Go.TL
open Go
def ePacket (x : PacketT) : List Leaf := [.sc (.bool x.Ack), .sc (.int .i64 x.No), .sc (.string x.Text)]
@[go_sem] theorem ePacket_ (x : PacketT) : ePacket x = [.sc (.bool x.Ack), .sc (.int .i64 x.No), .sc (.string x.Text)] := rfl
@[go_sem] theorem flat_ePacket (l : List PacketT) : flatR (l.map ePacket) = True := flat_map (fun x l h => by simp only [ePacket, List.mem_cons, List.not_mem_nil, or_false] at h; rcases h with rfl | rfl | rfl <;> exact ⟨_, rfl⟩) l
@[go_sem] theorem fold_ePacket_set (l : List PacketT) (i : Nat) (v0 : Bool) (v1 : Int) (v2 : ByteArray) : (l.map ePacket).set i [.sc (.bool v0), .sc (.int .i64 v1), .sc (.string v2)] = (l.set i (⟨v0, v1, v2⟩ : PacketT)).map ePacket := by rw [List.map_set]; rfl
@[go_sem] theorem fold_ePacket_app (l : List PacketT) (v0 : Bool) (v1 : Int) (v2 : ByteArray) : l.map ePacket ++ [[.sc (.bool v0), .sc (.int .i64 v1), .sc (.string v2)]] = (l ++ [(⟨v0, v1, v2⟩ : PacketT)]).map ePacket := by rw [List.map_append]; rfl
theorem fold_ePacket_rep (n : Nat) : List.replicate n [.sc (.bool false), .sc (.int .i64 0), .sc (.string ByteArray.empty)] = (List.replicate n (⟨false, 0, ByteArray.empty⟩ : PacketT)).map ePacket := by rw [List.map_replicate]; rfl
def eCall (x : CallT) : List Leaf := [.sc (.int .i64 x.Now), .sc (.bool x.Fine)]
@[go_sem] theorem eCall_ (x : CallT) : eCall x = [.sc (.int .i64 x.Now), .sc (.bool x.Fine)] := rfl
@[go_sem] theorem flat_eCall (l : List CallT) : flatR (l.map eCall) = True := flat_map (fun x l h => by simp only [eCall, List.mem_cons, List.not_mem_nil, or_false] at h; rcases h with rfl | rfl <;> exact ⟨_, rfl⟩) l
@[go_sem] theorem fold_eCall_set (l : List CallT) (i : Nat) (v0 : Int) (v1 : Bool) : (l.map eCall).set i [.sc (.int .i64 v0), .sc (.bool v1)] = (l.set i (⟨v0, v1⟩ : CallT)).map eCall := by rw [List.map_set]; rfl
@[go_sem] theorem fold_eCall_app (l : List CallT) (v0 : Int) (v1 : Bool) : l.map eCall ++ [[.sc (.int .i64 v0), .sc (.bool v1)]] = (l ++ [(⟨v0, v1⟩ : CallT)]).map eCall := by rw [List.map_append]; rfl
theorem fold_eCall_rep (n : Nat) : List.replicate n [.sc (.int .i64 0), .sc (.bool false)] = (List.replicate n (⟨0, false⟩ : CallT)).map eCall := by rw [List.map_replicate]; rfl
end Go.TL
