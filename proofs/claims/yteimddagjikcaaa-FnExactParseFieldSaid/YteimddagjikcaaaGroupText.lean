/- The text of a group of charges, in the program and in the reference. -/
import Derived.Test.YteimddagjikcaaaFieldText
import Derived.WalkKit
import Derived.WalkSpells
import Derived.KernelRfl
namespace Go.Proofs.Yteimddagjikcaaa
open Go.RowKit
set_option linter.unusedVariables false
set_option linter.unusedSimpArgs false

attribute [local go_sem] strs

def kindName (k : Int) : ByteArray :=
  match k with
  | 1 => ⟨#[108, 105, 111, 110]⟩
  | 2 => ⟨#[101, 97, 103, 108, 101]⟩
  | 3 => ⟨#[102, 105, 115, 104]⟩
  | 4 => ⟨#[114, 111, 115, 101]⟩
  | 5 => ⟨#[115, 116, 97, 114]⟩
  | 6 => ⟨#[116, 111, 119, 101, 114]⟩
  | 7 => ⟨#[107, 101, 121]⟩
  | 8 => ⟨#[115, 119, 111, 114, 100]⟩
  | _ => ⟨#[]⟩

def kindText (k c : Int) : ByteArray := if 1 < c ∧ k ≠ 3 then kindName k ++ ⟨#[115]⟩ else kindName k

def numName (c : Int) : ByteArray :=
  match c with
  | 1 => ⟨#[97]⟩
  | 2 => ⟨#[116, 119, 111]⟩
  | 3 => ⟨#[116, 104, 114, 101, 101]⟩
  | 4 => ⟨#[102, 111, 117, 114]⟩
  | 5 => ⟨#[102, 105, 118, 101]⟩
  | 6 => ⟨#[115, 105, 120]⟩
  | _ => ⟨#[]⟩

def numText (c k : Int) : ByteArray := if c = 1 ∧ k = 2 then ⟨#[97, 110]⟩ else numName c

def attName (k a : Int) : ByteArray :=
  match k, a with
  | 1, 1 => ⟨#[114, 97, 109, 112, 97, 110, 116]⟩
  | 1, 2 => ⟨#[112, 97, 115, 115, 97, 110, 116]⟩
  | 2, 1 => ⟨#[100, 105, 115, 112, 108, 97, 121, 101, 100]⟩
  | 2, 2 => ⟨#[114, 105, 115, 105, 110, 103]⟩
  | 3, 1 => ⟨#[115, 119, 105, 109, 109, 105, 110, 103]⟩
  | 3, 2 => ⟨#[117, 112, 114, 105, 103, 104, 116]⟩
  | _, _ => ⟨#[]⟩

def attNames (k : Int) : List ByteArray := if 1 ≤ k ∧ k ≤ 3 then [attName k 1, attName k 2] else []

def okGroup (c k a t : Int) : Bool := inR c 1 6 && inR k 1 8 && inR t 1 9 && (if k ≤ 3 then inR a 1 2 else a == 0)

def bareText (c k a : Int) : ByteArray := if 0 < a then numText c k ++ ⟨#[32]⟩ ++ kindText k c ++ ⟨#[32]⟩ ++ attName k a else numText c k ++ ⟨#[32]⟩ ++ kindText k c

def groupText (c k a t : Int) : ByteArray := bareText c k a ++ ⟨#[32]⟩ ++ tincWord t

def groupTextR (c k a t : Int) : D := if okGroup c k a t then .tu [.str (groupText c k a t), .bool true] else .tu [.str ⟨#[]⟩, .bool false]

end Go.Proofs.Yteimddagjikcaaa
