/- What functions come to: classes of bytes. Conditions: none. -/
import Derived.Test.YtoefcncofakjkaaGreatDoorMA
set_option linter.unusedVariables false
set_option linter.unusedSimpArgs false
set_option maxRecDepth 100000
namespace Zv
open Go
noncomputable section
def clsOk (i:Nat) (x:Option (D × Bool)):Bool:=match x with
 | some (.tup [.int .i64 a,.int .i64 _],true)=>(decide (a=8)==(Nat.ble 97 i&&Nat.ble i 122))&&(decide (a=6)==(Nat.ble 48 i&&Nat.ble i 57))
 | _=>false
theorem cls0 (n:Nat):((List.range 32).all fun (i:Nat)=>clsOk (0+i) (cl (n+6) 165 [.int .i64 ((0+i:Nat):Int)]))=true:=by kernel_rfl
theorem cls1 (n:Nat):((List.range 32).all fun (i:Nat)=>clsOk (32+i) (cl (n+6) 165 [.int .i64 ((32+i:Nat):Int)]))=true:=by kernel_rfl
theorem cls2 (n:Nat):((List.range 32).all fun (i:Nat)=>clsOk (64+i) (cl (n+6) 165 [.int .i64 ((64+i:Nat):Int)]))=true:=by kernel_rfl
theorem cls3 (n:Nat):((List.range 32).all fun (i:Nat)=>clsOk (96+i) (cl (n+6) 165 [.int .i64 ((96+i:Nat):Int)]))=true:=by kernel_rfl
theorem cls4 (n:Nat):((List.range 32).all fun (i:Nat)=>clsOk (128+i) (cl (n+6) 165 [.int .i64 ((128+i:Nat):Int)]))=true:=by kernel_rfl
theorem cls5 (n:Nat):((List.range 32).all fun (i:Nat)=>clsOk (160+i) (cl (n+6) 165 [.int .i64 ((160+i:Nat):Int)]))=true:=by kernel_rfl
theorem cls6 (n:Nat):((List.range 32).all fun (i:Nat)=>clsOk (192+i) (cl (n+6) 165 [.int .i64 ((192+i:Nat):Int)]))=true:=by kernel_rfl
theorem cls7 (n:Nat):((List.range 32).all fun (i:Nat)=>clsOk (224+i) (cl (n+6) 165 [.int .i64 ((224+i:Nat):Int)]))=true:=by kernel_rfl
theorem cls (n:Nat) (b:UInt8):∃ a e:Int,cl (n+6) 165 [.int .i64 (b.toNat:Int)]=some (.tup [.int .i64 a,.int .i64 e],true)∧decide (a=8)=lowerB b∧decide (a=6)=digitB b:=by
 have h:clsOk b.toNat (cl (n+6) 165 [.int .i64 (b.toNat:Int)])=true:=by
  have hb:=b.toNat_lt
  obtain ⟨k,i,hk,hi,he⟩:∃ k i,k<8∧i<32∧b.toNat=k*32+i:=⟨b.toNat / 32,b.toNat % 32,by omega,by omega,by omega⟩
  rw [he]
  have hi':i∈List.range 32:=List.mem_range.2 hi
  match k,hk with
  | 0,_=>exact List.all_eq_true.1 (cls0 n) i hi'
  | 1,_=>exact List.all_eq_true.1 (cls1 n) i hi'
  | 2,_=>exact List.all_eq_true.1 (cls2 n) i hi'
  | 3,_=>exact List.all_eq_true.1 (cls3 n) i hi'
  | 4,_=>exact List.all_eq_true.1 (cls4 n) i hi'
  | 5,_=>exact List.all_eq_true.1 (cls5 n) i hi'
  | 6,_=>exact List.all_eq_true.1 (cls6 n) i hi'
  | 7,_=>exact List.all_eq_true.1 (cls7 n) i hi'
 unfold clsOk at h
 split at h
 ·rename_i a e hx
  simp only [Bool.and_eq_true,beq_iff_eq] at h
  exact ⟨a,e,hx,h.1,h.2⟩
 ·cases h
end
end Zv
