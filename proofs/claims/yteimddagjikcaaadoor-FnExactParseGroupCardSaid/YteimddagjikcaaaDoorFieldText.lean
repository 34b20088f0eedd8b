/- The text of a field, in the program and in the reference. -/
import Derived.Test.YteimddagjikcaaaDoorWords
import Derived.WalkKit
import Derived.WalkSpells
import Derived.KernelRfl
namespace Go.Proofs.YteimddagjikcaaaDoor
open Go.RowKit
set_option linter.unusedVariables false
set_option linter.unusedSimpArgs false

attribute [local go_sem] strs

def lineWord (n : Int) : ByteArray :=
  match n with
  | 1 => ⟨#[101, 110, 103, 114, 97, 105, 108, 101, 100]⟩
  | 2 => ⟨#[119, 97, 118, 121]⟩
  | 3 => ⟨#[101, 109, 98, 97, 116, 116, 108, 101, 100]⟩
  | 4 => ⟨#[105, 110, 100, 101, 110, 116, 101, 100]⟩
  | _ => ⟨#[]⟩

def divWord (n : Int) : ByteArray :=
  match n with
  | 1 => ⟨#[112, 101, 114, 32, 112, 97, 108, 101]⟩
  | 2 => ⟨#[112, 101, 114, 32, 102, 101, 115, 115]⟩
  | 3 => ⟨#[112, 101, 114, 32, 98, 101, 110, 100]⟩
  | 4 => ⟨#[113, 117, 97, 114, 116, 101, 114, 108, 121]⟩
  | 5 => ⟨#[112, 101, 114, 32, 115, 97, 108, 116, 105, 114, 101]⟩
  | 6 => ⟨#[112, 97, 108, 121]⟩
  | 7 => ⟨#[98, 97, 114, 114, 121]⟩
  | _ => ⟨#[]⟩

def okField (d l f s : Int) : Bool := inR d 0 7 && inR l 0 4 && inR f 1 9 && (if d = 0 then l == 0 && s == 0 else inR s 1 9 && s != f)

theorem tincWord_size (n : Int) : (tincWord n).size ≤ 6 := by
  unfold tincWord; split <;> decide

def lined (t : ByteArray) (l : Int) : ByteArray := if l = 0 then t else t ++ ⟨#[32]⟩ ++ lineWord l

def fieldText (d l f s : Int) : ByteArray :=
  if d = 0 then tincWord f
  else lined (divWord d) l ++ ⟨#[32]⟩ ++ tincWord f ++ ⟨#[32, 97, 110, 100, 32]⟩ ++ tincWord s

def lineWords : List ByteArray := [lineWord 1, lineWord 2, lineWord 3, lineWord 4]

def divWords : List ByteArray := [divWord 1, divWord 2, divWord 3, divWord 4, divWord 5, divWord 6, divWord 7]

attribute [local go_sem] lineWords divWords

def fieldTextR (d l f s : Int) : D := if okField d l f s then .tu [.str (fieldText d l f s), .bool true] else .tu [.str ⟨#[]⟩, .bool false]

end Go.Proofs.YteimddagjikcaaaDoor
