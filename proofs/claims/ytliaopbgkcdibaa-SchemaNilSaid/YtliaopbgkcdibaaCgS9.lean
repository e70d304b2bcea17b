/- The contracts: what the machine does at a call is what the plain function says. Written by mk.py. -/
import Derived.Test.YtliaopbgkcdibaaCgS8
set_option linter.unusedVariables false
set_option linter.unusedSimpArgs false
set_option maxRecDepth 100000
namespace Go.Proofs.Ytliaopbgkcdibaa
open Go.RowKit
theorem ref05_Words.ok (k : Nat) : ref05_Words.C (ref05_Words k) := by
  intro  r hF w0 G0  hI 
  unfold ref05_Words at hF
  refine calls_of_wp Try.func133 rfl ?_
  have hE : Env _ 2 [] := Env.start ⟨[]⟩ 2
  refine c_seq ?_; refine c_reg ?_; refine run tt_ok 1 hE rfl fun a hE => ?_; refine c_end ?_; refine xT ?_; refine c_seq ?_; refine c_reg ?_; refine s_bsl ai_22 hI hE rfl rfl rfl rfl rfl fun a w b1 hE hI => ?_
  have hR3 : RL G0 1 ([(⟨#[97, 108, 108]⟩ : ByteArray), (⟨#[97, 110, 100]⟩ : ByteArray), (⟨#[97, 115]⟩ : ByteArray), (⟨#[98, 101, 103, 105, 110]⟩ : ByteArray), (⟨#[98, 101, 103, 105, 110, 115]⟩ : ByteArray), (⟨#[98, 101, 116, 119, 101, 101, 110]⟩ : ByteArray), (⟨#[98, 121]⟩ : ByteArray), (⟨#[99, 97, 108, 108]⟩ : ByteArray), (⟨#[99, 97, 115, 101]⟩ : ByteArray), (⟨#[99, 97, 116, 99, 104]⟩ : ByteArray), (⟨#[99, 111, 109, 109, 105, 116]⟩ : ByteArray), (⟨#[100, 101, 108, 101, 116, 101]⟩ : ByteArray), (⟨#[100, 101, 115, 99]⟩ : ByteArray), (⟨#[100, 105, 115, 116, 105, 110, 99, 116]⟩ : ByteArray), (⟨#[101, 108, 115, 101]⟩ : ByteArray), (⟨#[101, 110, 100]⟩ : ByteArray), (⟨#[101, 120, 99, 101, 112, 116]⟩ : ByteArray), (⟨#[101, 120, 105, 115, 116, 115]⟩ : ByteArray), (⟨#[102, 111, 114]⟩ : ByteArray), (⟨#[102, 114, 111, 109]⟩ : ByteArray), (⟨#[103, 114, 111, 117, 112]⟩ : ByteArray), (⟨#[104, 97, 118, 105, 110, 103]⟩ : ByteArray), (⟨#[104, 105, 100, 101]⟩ : ByteArray), (⟨#[105, 102]⟩ : ByteArray), (⟨#[105, 110]⟩ : ByteArray), (⟨#[105, 110, 112, 117, 116]⟩ : ByteArray), (⟨#[105, 110, 115, 101, 114, 116]⟩ : ByteArray), (⟨#[105, 110, 116]⟩ : ByteArray), (⟨#[105, 110, 116, 111]⟩ : ByteArray), (⟨#[105, 110, 116, 101, 114, 115, 101, 99, 116]⟩ : ByteArray), (⟨#[105, 115]⟩ : ByteArray), (⟨#[106, 111, 105, 110]⟩ : ByteArray), (⟨#[107, 101, 121]⟩ : ByteArray), (⟨#[108, 101, 102, 116]⟩ : ByteArray), (⟨#[108, 101, 118, 101, 108]⟩ : ByteArray), (⟨#[108, 101, 118, 101, 108, 115]⟩ : ByteArray), (⟨#[108, 105, 109, 105, 116]⟩ : ByteArray), (⟨#[110, 111, 116]⟩ : ByteArray), (⟨#[110, 117, 108, 108]⟩ : ByteArray), (⟨#[111, 110]⟩ : ByteArray), (⟨#[111, 114]⟩ : ByteArray), (⟨#[111, 114, 100, 101, 114]⟩ : ByteArray), (⟨#[112, 114, 105, 110, 99, 105, 112, 97, 108]⟩ : ByteArray), (⟨#[112, 114, 105, 110, 116]⟩ : ByteArray), (⟨#[112, 114, 111, 99]⟩ : ByteArray), (⟨#[114, 97, 105, 115, 101]⟩ : ByteArray), (⟨#[114, 111, 108, 108, 98, 97, 99, 107]⟩ : ByteArray), (⟨#[114, 111, 119, 115]⟩ : ByteArray), (⟨#[115, 101, 108, 101, 99, 116]⟩ : ByteArray), (⟨#[115, 101, 116]⟩ : ByteArray), (⟨#[116, 97, 98, 108, 101]⟩ : ByteArray), (⟨#[116, 101, 120, 116]⟩ : ByteArray), (⟨#[116, 104, 101, 110]⟩ : ByteArray), (⟨#[116, 114, 117, 101]⟩ : ByteArray), (⟨#[116, 114, 121]⟩ : ByteArray), (⟨#[102, 97, 108, 115, 101]⟩ : ByteArray), (⟨#[98, 111, 111, 108]⟩ : ByteArray), (⟨#[117, 110, 105, 111, 110]⟩ : ByteArray), (⟨#[117, 112, 100, 97, 116, 101]⟩ : ByteArray), (⟨#[118, 97, 108, 117, 101, 115]⟩ : ByteArray), (⟨#[118, 97, 114]⟩ : ByteArray), (⟨#[118, 105, 115, 105, 98, 108, 101]⟩ : ByteArray), (⟨#[119, 104, 101, 110]⟩ : ByteArray), (⟨#[119, 104, 101, 114, 101]⟩ : ByteArray), (⟨#[119, 104, 105, 108, 101]⟩ : ByteArray), (⟨#[99, 104, 97, 110, 110, 101, 108]⟩ : ByteArray), (⟨#[115, 107, 105, 112]⟩ : ByteArray)].map D.str) [.string (⟨#[97, 108, 108]⟩ : ByteArray), .string (⟨#[97, 110, 100]⟩ : ByteArray), .string (⟨#[97, 115]⟩ : ByteArray), .string (⟨#[98, 101, 103, 105, 110]⟩ : ByteArray), .string (⟨#[98, 101, 103, 105, 110, 115]⟩ : ByteArray), .string (⟨#[98, 101, 116, 119, 101, 101, 110]⟩ : ByteArray), .string (⟨#[98, 121]⟩ : ByteArray), .string (⟨#[99, 97, 108, 108]⟩ : ByteArray), .string (⟨#[99, 97, 115, 101]⟩ : ByteArray), .string (⟨#[99, 97, 116, 99, 104]⟩ : ByteArray), .string (⟨#[99, 111, 109, 109, 105, 116]⟩ : ByteArray), .string (⟨#[100, 101, 108, 101, 116, 101]⟩ : ByteArray), .string (⟨#[100, 101, 115, 99]⟩ : ByteArray), .string (⟨#[100, 105, 115, 116, 105, 110, 99, 116]⟩ : ByteArray), .string (⟨#[101, 108, 115, 101]⟩ : ByteArray), .string (⟨#[101, 110, 100]⟩ : ByteArray), .string (⟨#[101, 120, 99, 101, 112, 116]⟩ : ByteArray), .string (⟨#[101, 120, 105, 115, 116, 115]⟩ : ByteArray), .string (⟨#[102, 111, 114]⟩ : ByteArray), .string (⟨#[102, 114, 111, 109]⟩ : ByteArray), .string (⟨#[103, 114, 111, 117, 112]⟩ : ByteArray), .string (⟨#[104, 97, 118, 105, 110, 103]⟩ : ByteArray), .string (⟨#[104, 105, 100, 101]⟩ : ByteArray), .string (⟨#[105, 102]⟩ : ByteArray), .string (⟨#[105, 110]⟩ : ByteArray), .string (⟨#[105, 110, 112, 117, 116]⟩ : ByteArray), .string (⟨#[105, 110, 115, 101, 114, 116]⟩ : ByteArray), .string (⟨#[105, 110, 116]⟩ : ByteArray), .string (⟨#[105, 110, 116, 111]⟩ : ByteArray), .string (⟨#[105, 110, 116, 101, 114, 115, 101, 99, 116]⟩ : ByteArray), .string (⟨#[105, 115]⟩ : ByteArray), .string (⟨#[106, 111, 105, 110]⟩ : ByteArray), .string (⟨#[107, 101, 121]⟩ : ByteArray), .string (⟨#[108, 101, 102, 116]⟩ : ByteArray), .string (⟨#[108, 101, 118, 101, 108]⟩ : ByteArray), .string (⟨#[108, 101, 118, 101, 108, 115]⟩ : ByteArray), .string (⟨#[108, 105, 109, 105, 116]⟩ : ByteArray), .string (⟨#[110, 111, 116]⟩ : ByteArray), .string (⟨#[110, 117, 108, 108]⟩ : ByteArray), .string (⟨#[111, 110]⟩ : ByteArray), .string (⟨#[111, 114]⟩ : ByteArray), .string (⟨#[111, 114, 100, 101, 114]⟩ : ByteArray), .string (⟨#[112, 114, 105, 110, 99, 105, 112, 97, 108]⟩ : ByteArray), .string (⟨#[112, 114, 105, 110, 116]⟩ : ByteArray), .string (⟨#[112, 114, 111, 99]⟩ : ByteArray), .string (⟨#[114, 97, 105, 115, 101]⟩ : ByteArray), .string (⟨#[114, 111, 108, 108, 98, 97, 99, 107]⟩ : ByteArray), .string (⟨#[114, 111, 119, 115]⟩ : ByteArray), .string (⟨#[115, 101, 108, 101, 99, 116]⟩ : ByteArray), .string (⟨#[115, 101, 116]⟩ : ByteArray), .string (⟨#[116, 97, 98, 108, 101]⟩ : ByteArray), .string (⟨#[116, 101, 120, 116]⟩ : ByteArray), .string (⟨#[116, 104, 101, 110]⟩ : ByteArray), .string (⟨#[116, 114, 117, 101]⟩ : ByteArray), .string (⟨#[116, 114, 121]⟩ : ByteArray), .string (⟨#[102, 97, 108, 115, 101]⟩ : ByteArray), .string (⟨#[98, 111, 111, 108]⟩ : ByteArray), .string (⟨#[117, 110, 105, 111, 110]⟩ : ByteArray), .string (⟨#[117, 112, 100, 97, 116, 101]⟩ : ByteArray), .string (⟨#[118, 97, 108, 117, 101, 115]⟩ : ByteArray), .string (⟨#[118, 97, 114]⟩ : ByteArray), .string (⟨#[118, 105, 115, 105, 98, 108, 101]⟩ : ByteArray), .string (⟨#[119, 104, 101, 110]⟩ : ByteArray), .string (⟨#[119, 104, 101, 114, 101]⟩ : ByteArray), .string (⟨#[119, 104, 105, 108, 101]⟩ : ByteArray), .string (⟨#[99, 104, 97, 110, 110, 101, 108]⟩ : ByteArray), .string (⟨#[115, 107, 105, 112]⟩ : ByteArray)] := (RL.cons (rep_str.2 rfl) rfl (RL.cons (rep_str.2 rfl) rfl (RL.cons (rep_str.2 rfl) rfl (RL.cons (rep_str.2 rfl) rfl (RL.cons (rep_str.2 rfl) rfl (RL.cons (rep_str.2 rfl) rfl (RL.cons (rep_str.2 rfl) rfl (RL.cons (rep_str.2 rfl) rfl (RL.cons (rep_str.2 rfl) rfl (RL.cons (rep_str.2 rfl) rfl (RL.cons (rep_str.2 rfl) rfl (RL.cons (rep_str.2 rfl) rfl (RL.cons (rep_str.2 rfl) rfl (RL.cons (rep_str.2 rfl) rfl (RL.cons (rep_str.2 rfl) rfl (RL.cons (rep_str.2 rfl) rfl (RL.cons (rep_str.2 rfl) rfl (RL.cons (rep_str.2 rfl) rfl (RL.cons (rep_str.2 rfl) rfl (RL.cons (rep_str.2 rfl) rfl (RL.cons (rep_str.2 rfl) rfl (RL.cons (rep_str.2 rfl) rfl (RL.cons (rep_str.2 rfl) rfl (RL.cons (rep_str.2 rfl) rfl (RL.cons (rep_str.2 rfl) rfl (RL.cons (rep_str.2 rfl) rfl (RL.cons (rep_str.2 rfl) rfl (RL.cons (rep_str.2 rfl) rfl (RL.cons (rep_str.2 rfl) rfl (RL.cons (rep_str.2 rfl) rfl (RL.cons (rep_str.2 rfl) rfl (RL.cons (rep_str.2 rfl) rfl (RL.cons (rep_str.2 rfl) rfl (RL.cons (rep_str.2 rfl) rfl (RL.cons (rep_str.2 rfl) rfl (RL.cons (rep_str.2 rfl) rfl (RL.cons (rep_str.2 rfl) rfl (RL.cons (rep_str.2 rfl) rfl (RL.cons (rep_str.2 rfl) rfl (RL.cons (rep_str.2 rfl) rfl (RL.cons (rep_str.2 rfl) rfl (RL.cons (rep_str.2 rfl) rfl (RL.cons (rep_str.2 rfl) rfl (RL.cons (rep_str.2 rfl) rfl (RL.cons (rep_str.2 rfl) rfl (RL.cons (rep_str.2 rfl) rfl (RL.cons (rep_str.2 rfl) rfl (RL.cons (rep_str.2 rfl) rfl (RL.cons (rep_str.2 rfl) rfl (RL.cons (rep_str.2 rfl) rfl (RL.cons (rep_str.2 rfl) rfl (RL.cons (rep_str.2 rfl) rfl (RL.cons (rep_str.2 rfl) rfl (RL.cons (rep_str.2 rfl) rfl (RL.cons (rep_str.2 rfl) rfl (RL.cons (rep_str.2 rfl) rfl (RL.cons (rep_str.2 rfl) rfl (RL.cons (rep_str.2 rfl) rfl (RL.cons (rep_str.2 rfl) rfl (RL.cons (rep_str.2 rfl) rfl (RL.cons (rep_str.2 rfl) rfl (RL.cons (rep_str.2 rfl) rfl (RL.cons (rep_str.2 rfl) rfl (RL.cons (rep_str.2 rfl) rfl (RL.cons (rep_str.2 rfl) rfl (RL.cons (rep_str.2 rfl) rfl (RL.cons (rep_str.2 rfl) rfl RL.nil)))))))))))))))))))))))))))))))))))))))))))))))))))))))))))))))))))
  refine run tt_ok 1 hE rfl fun a hE => ?_; refine c_end ?_; refine xT ?_
  obtain ⟨G4, hg5, hI, h6⟩ := (hI.front 0).giveR (xs := ([(⟨#[97, 108, 108]⟩ : ByteArray), (⟨#[97, 110, 100]⟩ : ByteArray), (⟨#[97, 115]⟩ : ByteArray), (⟨#[98, 101, 103, 105, 110]⟩ : ByteArray), (⟨#[98, 101, 103, 105, 110, 115]⟩ : ByteArray), (⟨#[98, 101, 116, 119, 101, 101, 110]⟩ : ByteArray), (⟨#[98, 121]⟩ : ByteArray), (⟨#[99, 97, 108, 108]⟩ : ByteArray), (⟨#[99, 97, 115, 101]⟩ : ByteArray), (⟨#[99, 97, 116, 99, 104]⟩ : ByteArray), (⟨#[99, 111, 109, 109, 105, 116]⟩ : ByteArray), (⟨#[100, 101, 108, 101, 116, 101]⟩ : ByteArray), (⟨#[100, 101, 115, 99]⟩ : ByteArray), (⟨#[100, 105, 115, 116, 105, 110, 99, 116]⟩ : ByteArray), (⟨#[101, 108, 115, 101]⟩ : ByteArray), (⟨#[101, 110, 100]⟩ : ByteArray), (⟨#[101, 120, 99, 101, 112, 116]⟩ : ByteArray), (⟨#[101, 120, 105, 115, 116, 115]⟩ : ByteArray), (⟨#[102, 111, 114]⟩ : ByteArray), (⟨#[102, 114, 111, 109]⟩ : ByteArray), (⟨#[103, 114, 111, 117, 112]⟩ : ByteArray), (⟨#[104, 97, 118, 105, 110, 103]⟩ : ByteArray), (⟨#[104, 105, 100, 101]⟩ : ByteArray), (⟨#[105, 102]⟩ : ByteArray), (⟨#[105, 110]⟩ : ByteArray), (⟨#[105, 110, 112, 117, 116]⟩ : ByteArray), (⟨#[105, 110, 115, 101, 114, 116]⟩ : ByteArray), (⟨#[105, 110, 116]⟩ : ByteArray), (⟨#[105, 110, 116, 111]⟩ : ByteArray), (⟨#[105, 110, 116, 101, 114, 115, 101, 99, 116]⟩ : ByteArray), (⟨#[105, 115]⟩ : ByteArray), (⟨#[106, 111, 105, 110]⟩ : ByteArray), (⟨#[107, 101, 121]⟩ : ByteArray), (⟨#[108, 101, 102, 116]⟩ : ByteArray), (⟨#[108, 101, 118, 101, 108]⟩ : ByteArray), (⟨#[108, 101, 118, 101, 108, 115]⟩ : ByteArray), (⟨#[108, 105, 109, 105, 116]⟩ : ByteArray), (⟨#[110, 111, 116]⟩ : ByteArray), (⟨#[110, 117, 108, 108]⟩ : ByteArray), (⟨#[111, 110]⟩ : ByteArray), (⟨#[111, 114]⟩ : ByteArray), (⟨#[111, 114, 100, 101, 114]⟩ : ByteArray), (⟨#[112, 114, 105, 110, 99, 105, 112, 97, 108]⟩ : ByteArray), (⟨#[112, 114, 105, 110, 116]⟩ : ByteArray), (⟨#[112, 114, 111, 99]⟩ : ByteArray), (⟨#[114, 97, 105, 115, 101]⟩ : ByteArray), (⟨#[114, 111, 108, 108, 98, 97, 99, 107]⟩ : ByteArray), (⟨#[114, 111, 119, 115]⟩ : ByteArray), (⟨#[115, 101, 108, 101, 99, 116]⟩ : ByteArray), (⟨#[115, 101, 116]⟩ : ByteArray), (⟨#[116, 97, 98, 108, 101]⟩ : ByteArray), (⟨#[116, 101, 120, 116]⟩ : ByteArray), (⟨#[116, 104, 101, 110]⟩ : ByteArray), (⟨#[116, 114, 117, 101]⟩ : ByteArray), (⟨#[116, 114, 121]⟩ : ByteArray), (⟨#[102, 97, 108, 115, 101]⟩ : ByteArray), (⟨#[98, 111, 111, 108]⟩ : ByteArray), (⟨#[117, 110, 105, 111, 110]⟩ : ByteArray), (⟨#[117, 112, 100, 97, 116, 101]⟩ : ByteArray), (⟨#[118, 97, 108, 117, 101, 115]⟩ : ByteArray), (⟨#[118, 97, 114]⟩ : ByteArray), (⟨#[118, 105, 115, 105, 98, 108, 101]⟩ : ByteArray), (⟨#[119, 104, 101, 110]⟩ : ByteArray), (⟨#[119, 104, 101, 114, 101]⟩ : ByteArray), (⟨#[119, 104, 105, 108, 101]⟩ : ByteArray), (⟨#[99, 104, 97, 110, 110, 101, 108]⟩ : ByteArray), (⟨#[115, 107, 105, 112]⟩ : ByteArray)]).map D.str) (by simp) hR3
  refine c_ret ?_; cases hF; refine r_ret (v := _) hE rfl ⟨_, _, _, rfl, hI.nil, rfl, (some ⟨b1, 0, none⟩), 67, rfl, h6⟩

theorem cl_126 : Callable Try.prog 126 := ⟨_, Try.func126, by kernel_rfl, by kernel_rfl⟩

def ref05_Word.C (s : ByteArray → Option Bool) : Prop := ∀ (p0 : ByteArray) (r : Bool), s p0 = some r → ∀ (w0 : World) (G0 : GH) , Inv w0 G0 [] G0 [] w0 → Calls Try.prog 126 #[.string p0] w0 (Ret w0 G0 [] fun G' L' v => L' = [] ∧ v = .bool r)

theorem ref05_Word.ok (k : Nat) : ref05_Word.C (ref05_Word k) := by
  intro p0 r hF w0 G0  hI 
  unfold ref05_Word at hF
  refine calls_of_wp Try.func126 rfl ?_
  have hE : Env _ 18 [(0, .string p0)] := Env.start ⟨[.string p0]⟩ 17
  refine c_seq ?_; refine c_reg ?_; refine run tt_ok 1 hE rfl fun a hE => ?_; refine c_end ?_; refine xT ?_; refine c_seq ?_; refine c_reg ?_; obtain ⟨y5, hy6, hF⟩ := bd hF
  refine s_call0 cl_133 hI hE rfl rfl ((ref05_Words.ok k) _ hy6 _ _  hI.pass0 ) rfl ?_; clear hE hI; rintro a w _ G8 _ ⟨rfl, A9, c10, rfl, h11⟩ hg7 hI hE; refine run tt_ok 1 hE rfl fun a hE => ?_; refine c_end ?_
  refine xT ?_; refine c_seq ?_; refine c_seq ?_; refine c_reg ?_; refine run tt_ok 1 hE rfl fun a hE => ?_; refine c_end ?_; refine xT ?_; obtain ⟨o25, hO26, hK27⟩ := bd hF; clear hF
  refine c_cut (fun a' w' => ∃ (s29 : Unit) (G30 : GH), o25 = .go s29 ∧ G8.le G30 ∧ Env a' 18 [] ∧ Inv w0 G0 [] G30 [] w') ?_ ?_; rotate_left
  · clear hE hI hO26; rintro a w ⟨s29, G30, rfl, hg31, hE, hI⟩; have hF := lrk_go hK27; clear hK27; refine xT ?_; refine c_seq ?_; refine c_reg ?_; refine run tt_ok 1 hE rfl fun a hE => ?_; refine c_end ?_; refine xT ?_
    refine c_ret ?_; cases hF; refine r_ret (v := _) hE rfl ⟨_, _, _, rfl, hI.nil, rfl, rfl⟩
  refine c_block ?_
  refine wp_loop_ghost (fun n' a' w' => ∃ (i34 : Nat) (rest36 : List ByteArray) (s24 : Unit) (G23 : GH), n' = rest36.length ∧ i34 ≤ y5.length ∧ y5.drop i34 = rest36 ∧ forL (ref05_Word.b0 k p0) i34 rest36 s24 = some o25 ∧ G8.le G23 ∧ Env a' 18 [(4, .int .i64 (i34 : Int)), (0, .string p0), (3, .slice A9 y5.length c10)] ∧ Inv w0 G0 [] G23 [] w') _ ⟨0, _, _, G8, rfl, Nat.zero_le _, rfl, hO26, (GH.le.refl _), hE.keep ⟨rfl, rfl, rfl, trivial⟩, hI⟩ ?_
  clear hE hI hO26; rintro m33 a w ⟨i34, rest36, s24, G23, rfl, hi40, hd37, hO26, hg28, hE, hI⟩; rcases rest36 with _ | ⟨x35, rest36⟩
  · obtain rfl := forL_nil hO26; have hlt39 := drop_nil hd37 hi40; clear hd37; refine c_seq ?_; refine c_seq ?_; refine c_reg ?_; refine run tt_ok 4 hE rfl fun a hE => ?_; refine c_end ?_; refine xT ?_
    have hE := hE.tr (t := 9) rfl (decide_eq_false (by omega)); refine c_false hE rfl ?_; refine c_exit ?_; refine xTe ?_; refine xTe ?_; refine xBh ?_; refine xT ?_; exact ⟨_, G23, rfl, hg28, hE.keep trivial, hI⟩
  obtain ⟨stp32, hF, hO26⟩ := forL_step hO26; obtain ⟨hx38, hd37, hlt39⟩ := drop_cons hd37; unfold ref05_Word.b0 at hF; refine c_seq ?_; refine c_seq ?_; refine c_reg ?_; refine run tt_ok 4 hE rfl fun a hE => ?_
  refine c_end ?_; refine xT ?_; have hE := hE.tr (t := 9) rfl (decide_eq_true (by omega)); refine c_true hE rfl ?_; refine c_skip ?_; refine xT ?_; refine c_seq ?_; refine c_block ?_; refine c_seq ?_; refine c_reg ?_
  refine run tt_ok 2 hE rfl fun a hE => ?_; obtain ⟨b42, o43, cs, hb46, hR45, hA44⟩ := sl_at (h11.mono hg28) (Int.natCast_nonneg _) (natIdx hx38); obtain rfl := rep_str.1 hR45
  refine s_rt hI hE rfl (f_idx tt_ok hb46 rfl rfl rfl) rfl fun a hE => ?_; refine s_rt hI hE rfl (f_loadG tt_ok hA44 0 rfl rfl rfl rfl) rfl fun a hE => ?_; refine run tt_ok 2 hE rfl fun a hE => ?_; refine c_end ?_
  refine xT ?_; refine c_if (b := decide (x35 = p0)) hE rfl (fun hb47 => ?_) (fun hb47 => ?_)
  · replace hF := ct hb47 hF; refine c_seq ?_; refine c_reg ?_; refine run tt_ok 1 hE rfl fun a hE => ?_; refine c_end ?_; refine xT ?_; refine c_ret ?_; refine xBr ?_; refine xTr ?_; refine xTr ?_; refine xBr ?_
    refine xTr ?_; refine xTr ?_; cases hF; obtain rfl := nxt_ret hO26; have hF := lrk_ret hK27; cases hF; refine r_ret (v := _) hE rfl ⟨_, _, _, rfl, hI.nil, rfl, rfl⟩
  replace hF := cf hb47 hF; refine c_skip ?_; refine xB ?_; refine xT ?_; refine c_reg ?_; refine run tt_ok 3 hE rfl fun a hE => ?_; refine c_end ?_; refine xT ?_; cases hF
  have hE := hE.setI (t := 4) rfl (w64_succ hlt39 (len_le h11)); exact ⟨rest36.length, Nat.lt_succ_self _, i34 + 1, rest36, _, G23, rfl, hlt39, hd37, hO26, hg28, hE.keep ⟨rfl, rfl, rfl, trivial⟩, hI⟩

theorem cl_113 : Callable Try.prog 113 := ⟨_, Try.func113, by kernel_rfl, by kernel_rfl⟩

def ref06_P_name.C (s : Tref06_P → Option (ByteArray × Tref06_P)) : Prop := ∀ (p0 : Tref06_P) (r : ByteArray × Tref06_P), s p0 = some r → ∀ (w0 : World) (G0 : GH) (D0 : List Nat) (b1 : Nat) (A2 : Option Addr) (c3 : Nat), Inv w0 G0 D0 G0 [.blk b1 [.slice A2 p0.T.length c3, .int .i64 p0.I, .int .i64 p0.Deep, .int .i64 p0.At, .int .i64 p0.E] 153] w0 → (Sl G0 A2 c3 4 (p0.T.map TToken.d)) → Calls Try.prog 113 #[.pointer (some ⟨b1, 0, none⟩)] w0 (Ret w0 G0 D0 fun G' L' v => L' = [.blk b1 [.slice A2 p0.T.length c3, .int .i64 r.2.I, .int .i64 p0.Deep, .int .i64 r.2.At, .int .i64 r.2.E] 153] ∧ v = .string r.1)

theorem ref06_P_name.ok (k : Nat) : ref06_P_name.C (ref06_P_name k) := by
  intro p0 r hF w0 G0 D0 b1 A2 c3 hI h4
  unfold ref06_P_name at hF
  refine calls_of_wp Try.func113 rfl ?_
  have hE : Env _ 57 [(0, .pointer (some ⟨b1, 0, none⟩))] := Env.start ⟨[.pointer (some ⟨b1, 0, none⟩)]⟩ 56
  refine c_seq ?_; refine c_reg ?_; refine run tt_ok 1 hE rfl fun a hE => ?_; refine c_end ?_; refine xT ?_; refine c_seq ?_; refine c_seq ?_; obtain ⟨m25, hF, hR27⟩ := bd hF
  refine c_cut (fun a' w' => ∃ (G23 : GH), G0.le G23 ∧ Env a' 57 [(0, .pointer (some ⟨b1, 0, none⟩)), (35, .bool m25)] ∧ Inv w0 G0 D0 G23 [.blk b1 [.slice A2 p0.T.length c3, .int .i64 p0.I, .int .i64 p0.Deep, .int .i64 p0.At, .int .i64 p0.E] 153] w') ?_ ?_
  rotate_left
  · clear hE hI; rintro a w ⟨G23, hg26, hE, hI⟩; clear hF; have hF := hR27; clear hR27; refine xT ?_; refine c_if (b := m25) hE rfl (fun hb46 => ?_) (fun hb46 => ?_)
    · replace hF := ct hb46 hF; refine c_seq ?_; refine c_reg ?_; refine run tt_ok 1 hE rfl fun a hE => ?_; obtain ⟨y28, hy29, hF⟩ := bd hF
      refine s_callM [.blk b1 [.slice A2 p0.T.length c3, .int .i64 p0.I, .int .i64 p0.Deep, .int .i64 p0.At, .int .i64 p0.E] 153] [] cl_118 hI hE rfl rfl (fun hIp => (ref06_P_bad.ok k) _ _ _ hy29 _ _ _ _ _ _ hIp (h4.mono hg26)) rfl ?_; clear hE hI
      rintro a w _ G31 _ ⟨rfl, rfl⟩ hg30 hI hE; refine c_end ?_; refine xT ?_; refine c_seq ?_; refine c_reg ?_; refine run tt_ok 1 hE rfl fun a hE => ?_; refine c_end ?_; refine xT ?_; refine c_ret ?_; refine xTr ?_; cases hF
      refine r_ret (v := _) hE rfl ⟨_, _, _, rfl, hI, rfl, rfl⟩
    replace hF := cf hb46 hF; refine c_skip ?_; refine xT ?_; refine c_seq ?_; refine c_reg ?_; refine run tt_ok 3 hE rfl fun a hE => ?_; refine s_rt hI hE rfl (f_loadB tt_ok 0 rfl rfl rfl rfl) rfl fun a hE => ?_
    refine run tt_ok 3 hE rfl fun a hE => ?_; refine s_storeB tt_ok 0 hI hE rfl rfl rfl rfl rfl rfl rfl rfl rfl rfl fun a w hE hI => ?_; refine c_end ?_; refine xT ?_; refine c_seq ?_
    refine c_draw mixed (by kernel_rfl) hI ?_; clear hI; refine runq tt_ok 3 hE rfl fun a hE => ?_; refine q_rt hE rfl (f_loadB tt_ok 0 rfl rfl rfl rfl) rfl fun a hE => ?_; refine runq tt_ok 3 hE rfl fun a hE => ?_
    refine q_rt hE rfl (f_loadB tt_ok 0 rfl rfl rfl rfl) rfl fun a hE => ?_; refine runq tt_ok 1 hE rfl fun a hE => ?_; obtain ⟨y43, hy44, hF⟩ := bd hF
    obtain ⟨b39, o40, cs, hb45, hR42, hA41⟩ := sl_at (h4.mono hg26) (getO_some hy44).1 (getO_some hy44).2; obtain rfl := TToken.inv.1 hR42; refine q_rt hE rfl (f_idx tt_ok hb45 rfl rfl rfl) rfl fun a hE => ?_
    refine runq tt_ok 1 hE rfl fun a hE => ?_; refine q_rt hE rfl (f_loadG tt_ok hA41 1 rfl rfl rfl rfl) rfl fun a hE => ?_; refine runq tt_ok 1 hE rfl fun a hE => ?_; refine q_end ?_; intro w hI; refine xT ?_
    refine c_ret ?_; cases hF; refine r_ret (v := _) hE rfl ⟨_, _, _, rfl, hI, rfl, rfl⟩
  refine c_draw mixed (by kernel_rfl) hI ?_; clear hI; refine runq tt_ok 3 hE rfl fun a hE => ?_; refine q_rt hE rfl (f_loadB tt_ok 0 rfl rfl rfl rfl) rfl fun a hE => ?_; refine runq tt_ok 2 hE rfl fun a hE => ?_
  rcases bool_or (!decide (p0.E = (0 : Int))) with hb47 | hb47
  · replace hF := ct hb47 hF; have hE := hE.tr (t := 8) rfl hb47; clear hb47; refine runq tt_ok 27 hE rfl fun a hE => ?_; refine q_end ?_; intro w hI; refine xT ?_; cases hF
    exact ⟨G0, (GH.le.refl _), hE.keep ⟨rfl, rfl, trivial⟩, hI⟩
  replace hF := cf hb47 hF; have hE := hE.tr (t := 8) rfl hb47; clear hb47; refine runq tt_ok 3 hE rfl fun a hE => ?_; refine q_rt hE rfl (f_loadB tt_ok 0 rfl rfl rfl rfl) rfl fun a hE => ?_
  refine runq tt_ok 3 hE rfl fun a hE => ?_; refine q_rt hE rfl (f_loadB tt_ok 0 rfl rfl rfl rfl) rfl fun a hE => ?_; obtain ⟨y52, hy53, hF⟩ := bd hF
  obtain ⟨b48, o49, cs, hb54, hR51, hA50⟩ := sl_at h4 (getO_some hy53).1 (getO_some hy53).2; obtain rfl := TToken.inv.1 hR51; refine q_rt hE rfl (f_idx tt_ok hb54 rfl rfl rfl) rfl fun a hE => ?_
  refine runq tt_ok 1 hE rfl fun a hE => ?_; refine q_rt hE rfl (f_loadG tt_ok hA50 0 rfl rfl rfl rfl) rfl fun a hE => ?_; refine runq tt_ok 3 hE rfl fun a hE => ?_
  rcases bool_or (!decide (y52.Kind = (1 : Int))) with hb55 | hb55
  · replace hF := ct hb55 hF; have hE := hE.tr (t := 22) rfl hb55; clear hb55; refine runq tt_ok 13 hE rfl fun a hE => ?_; refine q_end ?_; intro w hI; refine xT ?_; cases hF
    exact ⟨G0, (GH.le.refl _), hE.keep ⟨rfl, rfl, trivial⟩, hI⟩
  replace hF := cf hb55 hF; have hE := hE.tr (t := 22) rfl hb55; clear hb55; refine runq tt_ok 3 hE rfl fun a hE => ?_; refine q_rt hE rfl (f_loadB tt_ok 0 rfl rfl rfl rfl) rfl fun a hE => ?_
  refine runq tt_ok 3 hE rfl fun a hE => ?_; refine q_rt hE rfl (f_loadB tt_ok 0 rfl rfl rfl rfl) rfl fun a hE => ?_; obtain ⟨b56, o57, cs, hb60, hR59, hA58⟩ := sl_at h4 (getO_some hy53).1 (getO_some hy53).2
  obtain rfl := TToken.inv.1 hR59; refine q_rt hE rfl (f_idx tt_ok hb60 rfl rfl rfl) rfl fun a hE => ?_; refine runq tt_ok 1 hE rfl fun a hE => ?_
  refine q_rt hE rfl (f_loadG tt_ok hA58 1 rfl rfl rfl rfl) rfl fun a hE => ?_; obtain ⟨y61, hy62, hF⟩ := bd hF
  refine q_call cl_126 hE rfl rfl (fun w hI => (ref05_Word.ok k) _ _ hy62 _ _  hI.pass0 ) (fun _ _ _ h => h.2) rfl fun a hE => ?_; refine runq tt_ok 1 hE rfl fun a hE => ?_; refine q_end ?_; intro w hI; refine xT ?_
  cases hF; exact ⟨G0, (GH.le.refl _), hE.keep ⟨rfl, rfl, trivial⟩, hI⟩

theorem cl_112 : Callable Try.prog 112 := ⟨_, Try.func112, by kernel_rfl, by kernel_rfl⟩

def ref06_P_names.C (s : Tref06_P → Option ((List ByteArray) × Tref06_P)) : Prop := ∀ (p0 : Tref06_P) (r : (List ByteArray) × Tref06_P), s p0 = some r → ∀ (w0 : World) (G0 : GH) (D0 : List Nat) (b1 : Nat) (A2 : Option Addr) (c3 : Nat), Inv w0 G0 D0 G0 [.blk b1 [.slice A2 p0.T.length c3, .int .i64 p0.I, .int .i64 p0.Deep, .int .i64 p0.At, .int .i64 p0.E] 153] w0 → (Sl G0 A2 c3 4 (p0.T.map TToken.d)) → Calls Try.prog 112 #[.pointer (some ⟨b1, 0, none⟩)] w0 (Ret w0 G0 D0 fun G' L' v => ∃ A0 c0, L' = [.blk b1 [.slice A2 p0.T.length c3, .int .i64 r.2.I, .int .i64 p0.Deep, .int .i64 r.2.At, .int .i64 r.2.E] 153] ∧ v = .slice A0 r.1.length c0 ∧ Sl G' A0 c0 1 (r.1.map D.str))

theorem ref06_P_names.ok (k : Nat) : ref06_P_names.C (ref06_P_names k) := by
  intro p0 r hF w0 G0 D0 b1 A2 c3 hI h4
  unfold ref06_P_names at hF
  refine calls_of_wp Try.func112 rfl ?_
  have hE : Env _ 15 [(0, .pointer (some ⟨b1, 0, none⟩))] := Env.start ⟨[.pointer (some ⟨b1, 0, none⟩)]⟩ 14
  refine c_seq ?_; refine c_reg ?_; refine run tt_ok 1 hE rfl fun a hE => ?_; refine c_end ?_; refine xT ?_; refine c_seq ?_; refine c_reg ?_; refine run tt_ok 1 hE rfl fun a hE => ?_; obtain ⟨y6, hy7, hF⟩ := bd hF
  refine s_callM [.blk b1 [.slice A2 p0.T.length c3, .int .i64 p0.I, .int .i64 p0.Deep, .int .i64 p0.At, .int .i64 p0.E] 153] [] cl_113 hI hE rfl rfl (fun hIp => (ref06_P_name.ok k) _ _ hy7 _ _ _ _ _ _ hIp h4) rfl ?_; clear hE hI
  rintro a w _ G9 _ ⟨rfl, rfl⟩ hg8 hI hE; refine s_bsl ai_22 hI hE rfl rfl rfl rfl rfl fun a w b10 hE hI => ?_; have hR12 : RL G9 1 ([y6.1].map D.str) [.string y6.1] := (RL.cons (rep_str.2 rfl) rfl RL.nil)
  refine run tt_ok 1 hE rfl fun a hE => ?_; refine c_end ?_; refine xT ?_; refine c_seq ?_; obtain ⟨o99, hO100, hK101⟩ := bd hF; clear hF
  refine c_cut (fun a' w' => ∃ (s103 : (List ByteArray) × Int × Int × Int) (G104 : GH) (A106 : Option Addr) (c107 : Nat) (cs108 : List Value), o99 = .go s103 ∧ G9.le G104 ∧ Env a' 15 [(3, .slice A106 s103.1.length c107)] ∧ Inv w0 G0 D0 G104 [.row (.slice A106 s103.1.length c107) 9 1 s103.1.length cs108, .blk b1 [.slice A2 p0.T.length c3, .int .i64 s103.2.1, .int .i64 p0.Deep, .int .i64 s103.2.2.1, .int .i64 s103.2.2.2] 153] w' ∧ RL G104 1 (s103.1.map D.str) cs108) ?_ ?_
  rotate_left
  · clear hE hI hO100; rintro a w ⟨s103, G104, A106, c107, cs108, rfl, hg113, hE, hI, hR109⟩; have hF := lrk_go hK101; clear hK101; refine xT ?_; refine c_seq ?_; refine c_reg ?_; refine run tt_ok 2 hE rfl fun a hE => ?_
    refine c_end ?_; refine xT ?_; obtain ⟨G114, hg115, hI, h116⟩ := (hI.front 0).giveR (xs := s103.1.map D.str) (by simp) hR109; refine c_ret ?_; cases hF
    refine r_ret (v := _) hE rfl ⟨_, _, _, rfl, hI, A106, c107, rfl, rfl, h116⟩
  refine c_block ?_
  refine wp_loop_ghost (fun n' a' w' => ∃ (s98 : (List ByteArray) × Int × Int × Int) (G89 : GH) (A91 : Option Addr) (c92 : Nat) (cs93 : List Value), whileL (ref06_P_names.b0 k p0) n' s98 = some o99 ∧ G9.le G89 ∧ Env a' 15 [(0, .pointer (some ⟨b1, 0, none⟩)), (3, .slice A91 s98.1.length c92)] ∧ Inv w0 G0 D0 G89 [.row (.slice A91 s98.1.length c92) 9 1 s98.1.length cs93, .blk b1 [.slice A2 p0.T.length c3, .int .i64 s98.2.1, .int .i64 p0.Deep, .int .i64 s98.2.2.1, .int .i64 s98.2.2.2] 153] w' ∧ RL G89 1 (s98.1.map D.str) cs93) _ ⟨_, G9, (some ⟨b10, 0, none⟩), 1, [.string y6.1], hO100, (GH.le.refl _), hE.keep ⟨rfl, rfl, trivial⟩, hI, hR12⟩ ?_
  clear hE hI hO100; rintro m118 a w ⟨s98, G89, A91, c92, cs93, hO100, hg102, hE, hI, hR94⟩; rcases m118 with _ | m118
  · cases hO100
  obtain ⟨stp117, hF, hO100⟩ := while_step hO100; unfold ref06_P_names.b0 at hF; refine c_seq ?_; refine c_seq ?_; refine c_reg ?_; refine run tt_ok 1 hE rfl fun a hE => ?_; have hI := hI.pick [1, 0] (by decide) rfl
  obtain ⟨y127, hy128, hF⟩ := bd hF
  refine s_callM [.blk b1 [.slice A2 p0.T.length c3, .int .i64 s98.2.1, .int .i64 p0.Deep, .int .i64 s98.2.2.1, .int .i64 s98.2.2.2] 153] [.row (.slice A91 s98.1.length c92) 9 1 s98.1.length cs93] cl_111 hI hE rfl rfl (fun hIp => (ref06_P_take.ok k) _ _ _ hy128 _ _ _ _ _ _ hIp (h4.mono (hg8.trans hg102))) rfl ?_; clear hE hI
  rintro a w _ G130 _ ⟨rfl, rfl⟩ hg129 hI hE; refine c_end ?_; refine xT ?_; refine c_if (b := y127.1) hE rfl (fun hb148 => ?_) (fun hb148 => ?_); rotate_left
  · replace hF := cf hb148 hF; refine c_exit ?_; refine xTe ?_; refine xTe ?_; refine xBh ?_; refine xT ?_; cases hF; obtain rfl := wnxt_brk hO100
    exact ⟨_, G130, A91, c92, cs93, rfl, (hg102.trans hg129), hE.keep ⟨rfl, trivial⟩, (hI.pick [1, 0] (by decide) rfl), (hR94.mono hg129)⟩
  replace hF := ct hb148 hF; refine c_skip ?_; refine xT ?_; refine c_block ?_; refine c_reg ?_; refine run tt_ok 2 hE rfl fun a hE => ?_; obtain ⟨y136, hy137, hF⟩ := bd hF
  refine s_callM [.blk b1 [.slice A2 p0.T.length c3, .int .i64 y127.2.I, .int .i64 p0.Deep, .int .i64 s98.2.2.1, .int .i64 s98.2.2.2] 153] [.row (.slice A91 s98.1.length c92) 9 1 s98.1.length cs93] cl_113 hI hE rfl rfl (fun hIp => (ref06_P_name.ok k) _ _ hy137 _ _ _ _ _ _ hIp (h4.mono ((hg8.trans hg102).trans hg129))) rfl ?_; clear hE hI
  rintro a w _ G139 _ ⟨rfl, rfl⟩ hg138 hI hE; refine s_bsl ai_22 hI hE rfl rfl rfl rfl rfl fun a w b140 hE hI => ?_; have hR142 : RL G139 1 ([y136.1].map D.str) [.string y136.1] := (RL.cons (rep_str.2 rfl) rfl RL.nil)
  obtain ⟨_, hb143, hF⟩ := bd hF; refine s_appO (f := D.str) (xs := s98.1) (ys := [y136.1]) ai_22 2 0 hI hE rfl rfl rfl hR142 rfl rfl (lim_le hb143) rfl fun a w A144 c145 hE hI => ?_
  have hR147 := RL.appm (hR94.mono (hg129.trans hg138)) hR142; refine run tt_ok 1 hE rfl fun a hE => ?_; refine c_end ?_; refine xB ?_; refine xT ?_; cases hF
  exact ⟨m118, Nat.lt_succ_self _, _, G139, A144, c145, (cs93 ++ [.string y136.1]), hO100, ((hg102.trans hg129).trans hg138), hE.keep ⟨rfl, rfl, trivial⟩, (hI.pick [2, 1] (by decide) rfl), hR147⟩

theorem cl_114 : Callable Try.prog 114 := ⟨_, Try.func114, by kernel_rfl, by kernel_rfl⟩

def ref06_P_must.C (s : Tref06_P → ByteArray → Option Tref06_P) : Prop := ∀ (p0 : Tref06_P) (p1 : ByteArray) (r : Tref06_P), s p0 p1 = some r → ∀ (w0 : World) (G0 : GH) (D0 : List Nat) (b1 : Nat) (A2 : Option Addr) (c3 : Nat), Inv w0 G0 D0 G0 [.blk b1 [.slice A2 p0.T.length c3, .int .i64 p0.I, .int .i64 p0.Deep, .int .i64 p0.At, .int .i64 p0.E] 153] w0 → (Sl G0 A2 c3 4 (p0.T.map TToken.d)) → Calls Try.prog 114 #[.pointer (some ⟨b1, 0, none⟩), .string p1] w0 (Ret w0 G0 D0 fun G' L' v => L' = [.blk b1 [.slice A2 p0.T.length c3, .int .i64 r.I, .int .i64 p0.Deep, .int .i64 r.At, .int .i64 r.E] 153] ∧ v = .tuple ⟨[]⟩)

theorem ref06_P_must.ok (k : Nat) : ref06_P_must.C (ref06_P_must k) := by
  intro p0 p1 r hF w0 G0 D0 b1 A2 c3 hI h4
  unfold ref06_P_must at hF
  refine calls_of_wp Try.func114 rfl ?_
  have hE : Env _ 10 [(0, .pointer (some ⟨b1, 0, none⟩)), (1, .string p1)] := Env.start ⟨[.pointer (some ⟨b1, 0, none⟩), .string p1]⟩ 8
  refine c_seq ?_; refine c_reg ?_; refine run tt_ok 2 hE rfl fun a hE => ?_; obtain ⟨y6, hy7, hF⟩ := bd hF
  refine s_callM [.blk b1 [.slice A2 p0.T.length c3, .int .i64 p0.I, .int .i64 p0.Deep, .int .i64 p0.At, .int .i64 p0.E] 153] [] cl_111 hI hE rfl rfl (fun hIp => (ref06_P_take.ok k) _ _ _ hy7 _ _ _ _ _ _ hIp h4) rfl ?_; clear hE hI
  rintro a w _ G9 _ ⟨rfl, rfl⟩ hg8 hI hE; refine run tt_ok 1 hE rfl fun a hE => ?_; refine c_end ?_; refine xT ?_; refine c_if (b := !y6.1) hE rfl (fun hb14 => ?_) (fun hb14 => ?_); rotate_left
  · replace hF := cf hb14 hF; refine c_skip ?_; cases hF; refine r_end (v := _) hE rfl ⟨_, _, _, rfl, hI, rfl, rfl⟩
  replace hF := ct hb14 hF; refine c_reg ?_; refine run tt_ok 1 hE rfl fun a hE => ?_; obtain ⟨y10, hy11, hF⟩ := bd hF
  refine s_callM [.blk b1 [.slice A2 p0.T.length c3, .int .i64 y6.2.I, .int .i64 p0.Deep, .int .i64 p0.At, .int .i64 p0.E] 153] [] cl_118 hI hE rfl rfl (fun hIp => (ref06_P_bad.ok k) _ _ _ hy11 _ _ _ _ _ _ hIp (h4.mono hg8)) rfl ?_; clear hE hI
  rintro a w _ G13 _ ⟨rfl, rfl⟩ hg12 hI hE; refine c_end ?_; cases hF; refine r_end (v := _) hE rfl ⟨_, _, _, rfl, hI, rfl, rfl⟩

theorem cl_127 : Callable Try.prog 127 := ⟨_, Try.func127, by kernel_rfl, by kernel_rfl⟩

def ref06_P_ty.C (s : Tref06_P → Option (Int × Tref06_P)) : Prop := ∀ (p0 : Tref06_P) (r : Int × Tref06_P), s p0 = some r → ∀ (w0 : World) (G0 : GH) (D0 : List Nat) (b1 : Nat) (A2 : Option Addr) (c3 : Nat), Inv w0 G0 D0 G0 [.blk b1 [.slice A2 p0.T.length c3, .int .i64 p0.I, .int .i64 p0.Deep, .int .i64 p0.At, .int .i64 p0.E] 153] w0 → (Sl G0 A2 c3 4 (p0.T.map TToken.d)) → Calls Try.prog 127 #[.pointer (some ⟨b1, 0, none⟩)] w0 (Ret w0 G0 D0 fun G' L' v => L' = [.blk b1 [.slice A2 p0.T.length c3, .int .i64 r.2.I, .int .i64 p0.Deep, .int .i64 r.2.At, .int .i64 r.2.E] 153] ∧ v = .int .i64 r.1)

theorem ref06_P_ty.ok (k : Nat) : ref06_P_ty.C (ref06_P_ty k) := by
  intro p0 r hF w0 G0 D0 b1 A2 c3 hI h4
  unfold ref06_P_ty at hF
  refine calls_of_wp Try.func127 rfl ?_
  have hE : Env _ 11 [(0, .pointer (some ⟨b1, 0, none⟩))] := Env.start ⟨[.pointer (some ⟨b1, 0, none⟩)]⟩ 10
  refine c_seq ?_; refine c_reg ?_; refine run tt_ok 1 hE rfl fun a hE => ?_; refine c_end ?_; refine xT ?_; refine c_seq ?_; refine c_seq ?_; refine c_reg ?_; refine run tt_ok 1 hE rfl fun a hE => ?_
  obtain ⟨y6, hy7, hF⟩ := bd hF
  refine s_callM [.blk b1 [.slice A2 p0.T.length c3, .int .i64 p0.I, .int .i64 p0.Deep, .int .i64 p0.At, .int .i64 p0.E] 153] [] cl_111 hI hE rfl rfl (fun hIp => (ref06_P_take.ok k) _ _ _ hy7 _ _ _ _ _ _ hIp h4) rfl ?_; clear hE hI
  rintro a w _ G9 _ ⟨rfl, rfl⟩ hg8 hI hE; refine c_end ?_; refine xT ?_; refine c_if (b := y6.1) hE rfl (fun hb26 => ?_) (fun hb26 => ?_)
  · replace hF := ct hb26 hF; refine c_seq ?_; refine c_reg ?_; refine run tt_ok 1 hE rfl fun a hE => ?_; refine c_end ?_; refine xT ?_; refine c_ret ?_; refine xTr ?_; cases hF
    refine r_ret (v := _) hE rfl ⟨_, _, _, rfl, hI, rfl, rfl⟩
  replace hF := cf hb26 hF; refine c_skip ?_; refine xT ?_; refine c_seq ?_; refine c_seq ?_; refine c_reg ?_; refine run tt_ok 1 hE rfl fun a hE => ?_; obtain ⟨y11, hy12, hF⟩ := bd hF
  refine s_callM [.blk b1 [.slice A2 p0.T.length c3, .int .i64 y6.2.I, .int .i64 p0.Deep, .int .i64 p0.At, .int .i64 p0.E] 153] [] cl_111 hI hE rfl rfl (fun hIp => (ref06_P_take.ok k) _ _ _ hy12 _ _ _ _ _ _ hIp (h4.mono hg8)) rfl ?_; clear hE hI
  rintro a w _ G14 _ ⟨rfl, rfl⟩ hg13 hI hE; refine c_end ?_; refine xT ?_; refine c_if (b := y11.1) hE rfl (fun hb25 => ?_) (fun hb25 => ?_)
  · replace hF := ct hb25 hF; refine c_seq ?_; refine c_reg ?_; refine run tt_ok 1 hE rfl fun a hE => ?_; refine c_end ?_; refine xT ?_; refine c_ret ?_; refine xTr ?_; cases hF
    refine r_ret (v := _) hE rfl ⟨_, _, _, rfl, hI, rfl, rfl⟩
  replace hF := cf hb25 hF; refine c_skip ?_; refine xT ?_; refine c_seq ?_; refine c_seq ?_; refine c_reg ?_; refine run tt_ok 1 hE rfl fun a hE => ?_; obtain ⟨y16, hy17, hF⟩ := bd hF
  refine s_callM [.blk b1 [.slice A2 p0.T.length c3, .int .i64 y11.2.I, .int .i64 p0.Deep, .int .i64 p0.At, .int .i64 p0.E] 153] [] cl_111 hI hE rfl rfl (fun hIp => (ref06_P_take.ok k) _ _ _ hy17 _ _ _ _ _ _ hIp (h4.mono (hg8.trans hg13))) rfl ?_; clear hE hI
  rintro a w _ G19 _ ⟨rfl, rfl⟩ hg18 hI hE; refine c_end ?_; refine xT ?_; refine c_if (b := y16.1) hE rfl (fun hb24 => ?_) (fun hb24 => ?_)
  · replace hF := ct hb24 hF; refine c_seq ?_; refine c_reg ?_; refine run tt_ok 1 hE rfl fun a hE => ?_; refine c_end ?_; refine xT ?_; refine c_ret ?_; refine xTr ?_; cases hF
    refine r_ret (v := _) hE rfl ⟨_, _, _, rfl, hI, rfl, rfl⟩
  replace hF := cf hb24 hF; refine c_skip ?_; refine xT ?_; refine c_seq ?_; refine c_reg ?_; refine run tt_ok 1 hE rfl fun a hE => ?_; obtain ⟨y20, hy21, hF⟩ := bd hF
  refine s_callM [.blk b1 [.slice A2 p0.T.length c3, .int .i64 y16.2.I, .int .i64 p0.Deep, .int .i64 p0.At, .int .i64 p0.E] 153] [] cl_118 hI hE rfl rfl (fun hIp => (ref06_P_bad.ok k) _ _ _ hy21 _ _ _ _ _ _ hIp (h4.mono ((hg8.trans hg13).trans hg18))) rfl ?_; clear hE hI
  rintro a w _ G23 _ ⟨rfl, rfl⟩ hg22 hI hE; refine c_end ?_; refine xT ?_; refine c_seq ?_; refine c_reg ?_; refine run tt_ok 1 hE rfl fun a hE => ?_; refine c_end ?_; refine xT ?_; refine c_ret ?_; cases hF
  refine r_ret (v := _) hE rfl ⟨_, _, _, rfl, hI, rfl, rfl⟩

theorem cl_134 : Callable Try.prog 134 := ⟨_, Try.func134, by kernel_rfl, by kernel_rfl⟩

def ref06_P_down.C (s : Tref06_P → Option Tref06_P) : Prop := ∀ (p0 : Tref06_P) (r : Tref06_P), s p0 = some r → ∀ (w0 : World) (G0 : GH) (D0 : List Nat) (b1 : Nat) (A2 : Option Addr) (c3 : Nat), Inv w0 G0 D0 G0 [.blk b1 [.slice A2 p0.T.length c3, .int .i64 p0.I, .int .i64 p0.Deep, .int .i64 p0.At, .int .i64 p0.E] 153] w0 → (Sl G0 A2 c3 4 (p0.T.map TToken.d)) → Calls Try.prog 134 #[.pointer (some ⟨b1, 0, none⟩)] w0 (Ret w0 G0 D0 fun G' L' v => L' = [.blk b1 [.slice A2 p0.T.length c3, .int .i64 p0.I, .int .i64 r.Deep, .int .i64 r.At, .int .i64 r.E] 153] ∧ v = .tuple ⟨[]⟩)

theorem ref06_P_down.ok (k : Nat) : ref06_P_down.C (ref06_P_down k) := by
  intro p0 r hF w0 G0 D0 b1 A2 c3 hI h4
  unfold ref06_P_down at hF
  refine calls_of_wp Try.func134 rfl ?_
  have hE : Env _ 23 [(0, .pointer (some ⟨b1, 0, none⟩))] := Env.start ⟨[.pointer (some ⟨b1, 0, none⟩)]⟩ 22
  refine c_seq ?_; refine c_reg ?_; refine run tt_ok 3 hE rfl fun a hE => ?_; refine s_rt hI hE rfl (f_loadB tt_ok 0 rfl rfl rfl rfl) rfl fun a hE => ?_; refine run tt_ok 3 hE rfl fun a hE => ?_
  refine s_storeB tt_ok 0 hI hE rfl rfl rfl rfl rfl rfl rfl rfl rfl rfl fun a w hE hI => ?_; refine c_end ?_; refine xT ?_; refine c_seq ?_; obtain ⟨m10, hF, hR12⟩ := bd hF
  refine c_cut (fun a' w' => ∃ (G8 : GH), G0.le G8 ∧ Env a' 23 [(0, .pointer (some ⟨b1, 0, none⟩)), (20, .bool m10)] ∧ Inv w0 G0 D0 G8 [.blk b1 [.slice A2 p0.T.length c3, .int .i64 p0.I, .int .i64 (w64 (p0.Deep + (1 : Int))), .int .i64 p0.At, .int .i64 p0.E] 153] w') ?_ ?_
  · refine c_reg ?_; refine run tt_ok 3 hE rfl fun a hE => ?_; refine s_rt hI hE rfl (f_loadB tt_ok 0 rfl rfl rfl rfl) rfl fun a hE => ?_; refine run tt_ok 2 hE rfl fun a hE => ?_
    rcases bool_or (decide (p0.E = (0 : Int))) with hb18 | hb18; rotate_left
    · replace hF := cf hb18 hF; have hE := hE.tr (t := 14) rfl hb18; clear hb18; refine run tt_ok 6 hE rfl fun a hE => ?_; refine c_end ?_; refine xT ?_; cases hF; exact ⟨G0, (GH.le.refl _), hE.keep ⟨rfl, rfl, trivial⟩, hI⟩
    replace hF := ct hb18 hF; have hE := hE.tr (t := 14) rfl hb18; clear hb18; refine run tt_ok 3 hE rfl fun a hE => ?_; refine s_rt hI hE rfl (f_loadB tt_ok 0 rfl rfl rfl rfl) rfl fun a hE => ?_
    refine run tt_ok 2 hE rfl fun a hE => ?_; refine c_end ?_; refine xT ?_; cases hF; exact ⟨G0, (GH.le.refl _), hE.keep ⟨rfl, rfl, trivial⟩, hI⟩
  clear hE hI; rintro a w ⟨G8, hg11, hE, hI⟩; clear hF; have hF := hR12; clear hR12; refine xT ?_; refine c_if (b := m10) hE rfl (fun hb17 => ?_) (fun hb17 => ?_); rotate_left
  · replace hF := cf hb17 hF; refine c_skip ?_; cases hF; refine r_end (v := _) hE rfl ⟨_, _, _, rfl, hI, rfl, rfl⟩
  replace hF := ct hb17 hF; refine c_reg ?_; refine run tt_ok 1 hE rfl fun a hE => ?_; obtain ⟨y13, hy14, hF⟩ := bd hF
  refine s_callM [.blk b1 [.slice A2 p0.T.length c3, .int .i64 p0.I, .int .i64 (w64 (p0.Deep + (1 : Int))), .int .i64 p0.At, .int .i64 p0.E] 153] [] cl_118 hI hE rfl rfl (fun hIp => (ref06_P_bad.ok k) _ _ _ hy14 _ _ _ _ _ _ hIp (h4.mono hg11)) rfl ?_; clear hE hI
  rintro a w _ G16 _ ⟨rfl, rfl⟩ hg15 hI hE; refine c_end ?_; cases hF; refine r_end (v := _) hE rfl ⟨_, _, _, rfl, hI, rfl, rfl⟩

theorem cl_136 : Callable Try.prog 136 := ⟨_, Try.func136, by kernel_rfl, by kernel_rfl⟩

def ref06_bin.C (s : ByteArray → TExpr → TExpr → Option TExpr) : Prop := ∀ (p0 : ByteArray) (p1 : TExpr) (p2 : TExpr) (r : TExpr), s p0 p1 p2 = some r → ∀ (w0 : World) (G0 : GH) (cs7 : List Value) (cs15 : List Value), Inv w0 G0 [] G0 [] w0 → (Rep G0 p1.d cs7) → (Rep G0 p2.d cs15) → Calls Try.prog 136 #[.string p0, .agg ⟨cs7⟩, .agg ⟨cs15⟩] w0 (Ret w0 G0 [] fun G' L' v => L' = [] ∧ ∃ cs0, v = .agg ⟨cs0⟩ ∧ Rep G' r.d cs0)

theorem ref06_bin.ok (k : Nat) : ref06_bin.C (ref06_bin k) := by
  intro p0 p1 p2 r hF w0 G0 cs7 cs15 hI hR8 hR16
  unfold ref06_bin at hF
  obtain ⟨A1, c2, A4, c5, rfl, h3, h6⟩ := TExpr.inv.1 hR8
  obtain ⟨A9, c10, A12, c13, rfl, h11, h14⟩ := TExpr.inv.1 hR16
  refine calls_of_wp Try.func136 rfl ?_
  have hE : Env _ 12 [(0, .string p0), (1, .agg ⟨[.int .i64 p1.Kind, .int .i64 p1.N, .string p1.S, .string p1.T, .slice A1 p1.Kids.length c2, .slice A4 p1.Q.length c5]⟩), (2, .agg ⟨[.int .i64 p2.Kind, .int .i64 p2.N, .string p2.S, .string p2.T, .slice A9 p2.Kids.length c10, .slice A12 p2.Q.length c13]⟩)] := Env.start ⟨[.string p0, .agg ⟨[.int .i64 p1.Kind, .int .i64 p1.N, .string p1.S, .string p1.T, .slice A1 p1.Kids.length c2, .slice A4 p1.Q.length c5]⟩, .agg ⟨[.int .i64 p2.Kind, .int .i64 p2.N, .string p2.S, .string p2.T, .slice A9 p2.Kids.length c10, .slice A12 p2.Q.length c13]⟩]⟩ 9
  refine c_seq ?_; refine c_reg ?_; refine s_box hI hE rfl rfl rfl rfl fun a w b17 hE hI => ?_; refine s_box hI hE rfl rfl rfl rfl fun a w b18 hE hI => ?_; refine s_alloc hI hE rfl z_117 rfl rfl fun a w b19 hE hI => ?_
  refine c_end ?_; refine xT ?_; refine c_seq ?_; refine c_reg ?_; refine run tt_ok 1 hE rfl fun a hE => ?_; refine s_rt hI hE rfl (f_loadB tt_ok 2 rfl rfl rfl rfl) rfl fun a hE => ?_
  refine s_rt hI hE rfl (f_loadB tt_ok 1 rfl rfl rfl rfl) rfl fun a hE => ?_; refine s_bsl ai_107 hI hE rfl rfl rfl rfl rfl fun a w b34 hE hI => ?_
  have hR36 : RL G0 6 ([p1, p2].map TExpr.d) [.int .i64 p1.Kind, .int .i64 p1.N, .string p1.S, .string p1.T, .slice A1 p1.Kids.length c2, .slice A4 p1.Q.length c5, .int .i64 p2.Kind, .int .i64 p2.N, .string p2.S, .string p2.T, .slice A9 p2.Kids.length c10, .slice A12 p2.Q.length c13] := (RL.cons (TExpr.inv.2 ⟨A1, c2, A4, c5, rfl, h3, h6⟩) rfl (RL.cons (TExpr.inv.2 ⟨A9, c10, A12, c13, rfl, h11, h14⟩) rfl RL.nil))
  refine s_rt hI hE rfl (f_build tt_ok rfl z_117 rfl rfl) rfl fun a hE => ?_; refine s_storeB tt_ok 1 hI hE rfl rfl rfl rfl rfl rfl rfl rfl rfl rfl fun a w hE hI => ?_; refine c_end ?_; refine xT ?_
  obtain ⟨G37, hg38, hI, h39⟩ := (hI.front 0).giveR (xs := ([p1, p2]).map TExpr.d) (by simp) hR36; refine c_ret ?_; cases hF
  refine r_retC tt_ok hE hI (.cell 0 rfl rfl rfl rfl .nil) rfl ⟨_, _, _, rfl, hI.nil, rfl, _, rfl, ((TExpr.inv (x := (TExpr.mk (10 : Int) (0 : Int) p0 (⟨#[]⟩ : ByteArray) ([p1, p2]) []))).2 ⟨(some ⟨b34, 0, none⟩), 2, none, 0, rfl, h39, (Sl.nil _ _ _ _ (Nat.zero_le _))⟩)⟩

theorem cl_140 : Callable Try.prog 140 := ⟨_, Try.func140, by kernel_rfl, by kernel_rfl⟩

def ref06_P_oneOf.C (s : Tref06_P → (List ByteArray) → Option (ByteArray × Tref06_P)) : Prop := ∀ (p0 : Tref06_P) (p1 : List ByteArray) (r : ByteArray × Tref06_P), s p0 p1 = some r → ∀ (w0 : World) (G0 : GH) (D0 : List Nat) (b1 : Nat) (A2 : Option Addr) (c3 : Nat) (A5 : Option Addr) (c6 : Nat), Inv w0 G0 D0 G0 [.blk b1 [.slice A2 p0.T.length c3, .int .i64 p0.I, .int .i64 p0.Deep, .int .i64 p0.At, .int .i64 p0.E] 153] w0 → (Sl G0 A2 c3 4 (p0.T.map TToken.d)) → (Sl G0 A5 c6 1 (p1.map D.str)) → Calls Try.prog 140 #[.pointer (some ⟨b1, 0, none⟩), .slice A5 p1.length c6] w0 (Ret w0 G0 D0 fun G' L' v => L' = [.blk b1 [.slice A2 p0.T.length c3, .int .i64 r.2.I, .int .i64 p0.Deep, .int .i64 p0.At, .int .i64 p0.E] 153] ∧ v = .string r.1)

theorem ref06_P_oneOf.ok (k : Nat) : ref06_P_oneOf.C (ref06_P_oneOf k) := by
  intro p0 p1 r hF w0 G0 D0 b1 A2 c3 A5 c6 hI h4 h7
  unfold ref06_P_oneOf at hF
  refine calls_of_wp Try.func140 rfl ?_
  have hE : Env _ 22 [(0, .pointer (some ⟨b1, 0, none⟩)), (1, .slice A5 p1.length c6)] := Env.start ⟨[.pointer (some ⟨b1, 0, none⟩), .slice A5 p1.length c6]⟩ 20
  refine c_seq ?_; refine c_reg ?_; refine run tt_ok 1 hE rfl fun a hE => ?_; refine c_end ?_; refine xT ?_; refine c_seq ?_; refine c_seq ?_; refine c_reg ?_; refine run tt_ok 1 hE rfl fun a hE => ?_; refine c_end ?_
  refine xT ?_; obtain ⟨o58, hO59, hK60⟩ := bd hF; clear hF
  refine c_cut (fun a' w' => ∃ (s62 : Int) (G63 : GH), o58 = .go s62 ∧ G0.le G63 ∧ Env a' 22 [] ∧ Inv w0 G0 D0 G63 [.blk b1 [.slice A2 p0.T.length c3, .int .i64 s62, .int .i64 p0.Deep, .int .i64 p0.At, .int .i64 p0.E] 153] w') ?_ ?_
  rotate_left
  · clear hE hI hO59; rintro a w ⟨s62, G63, rfl, hg65, hE, hI⟩; have hF := lrk_go hK60; clear hK60; refine xT ?_; refine c_seq ?_; refine c_reg ?_; refine run tt_ok 1 hE rfl fun a hE => ?_; refine c_end ?_; refine xT ?_
    refine c_ret ?_; cases hF; refine r_ret (v := _) hE rfl ⟨_, _, _, rfl, hI, rfl, rfl⟩
  refine c_block ?_
  refine wp_loop_ghost (fun n' a' w' => ∃ (i68 : Nat) (rest70 : List ByteArray) (s57 : Int) (G55 : GH), n' = rest70.length ∧ i68 ≤ p1.length ∧ p1.drop i68 = rest70 ∧ forL (ref06_P_oneOf.b0 k p0) i68 rest70 s57 = some o58 ∧ G0.le G55 ∧ Env a' 22 [(5, .int .i64 (i68 : Int)), (0, .pointer (some ⟨b1, 0, none⟩)), (1, .slice A5 p1.length c6)] ∧ Inv w0 G0 D0 G55 [.blk b1 [.slice A2 p0.T.length c3, .int .i64 s57, .int .i64 p0.Deep, .int .i64 p0.At, .int .i64 p0.E] 153] w') _ ⟨0, _, _, G0, rfl, Nat.zero_le _, rfl, hO59, (GH.le.refl _), hE.keep ⟨rfl, rfl, rfl, trivial⟩, hI⟩ ?_
  clear hE hI hO59; rintro m67 a w ⟨i68, rest70, s57, G55, rfl, hi74, hd71, hO59, hg61, hE, hI⟩; rcases rest70 with _ | ⟨x69, rest70⟩
  · obtain rfl := forL_nil hO59; have hlt73 := drop_nil hd71 hi74; clear hd71; refine c_seq ?_; refine c_seq ?_; refine c_reg ?_; refine run tt_ok 4 hE rfl fun a hE => ?_; refine c_end ?_; refine xT ?_
    have hE := hE.tr (t := 9) rfl (decide_eq_false (by omega)); refine c_false hE rfl ?_; refine c_exit ?_; refine xTe ?_; refine xTe ?_; refine xBh ?_; refine xT ?_; exact ⟨_, G55, rfl, hg61, hE.keep trivial, hI⟩
  obtain ⟨stp66, hF, hO59⟩ := forL_step hO59; obtain ⟨hx72, hd71, hlt73⟩ := drop_cons hd71; unfold ref06_P_oneOf.b0 at hF; refine c_seq ?_; refine c_seq ?_; refine c_reg ?_; refine run tt_ok 4 hE rfl fun a hE => ?_
  refine c_end ?_; refine xT ?_; have hE := hE.tr (t := 9) rfl (decide_eq_true (by omega)); refine c_true hE rfl ?_; refine c_skip ?_; refine xT ?_; refine c_seq ?_; refine c_block ?_; refine c_seq ?_; refine c_reg ?_
  refine run tt_ok 3 hE rfl fun a hE => ?_; obtain ⟨b77, o78, cs, hb81, hR80, hA79⟩ := sl_at (h7.mono hg61) (Int.natCast_nonneg _) (natIdx hx72); obtain rfl := rep_str.1 hR80
  refine s_rt hI hE rfl (f_idx tt_ok hb81 rfl rfl rfl) rfl fun a hE => ?_; refine s_rt hI hE rfl (f_loadG tt_ok hA79 0 rfl rfl rfl rfl) rfl fun a hE => ?_; obtain ⟨y82, hy83, hF⟩ := bd hF
  refine s_callM [.blk b1 [.slice A2 p0.T.length c3, .int .i64 s57, .int .i64 p0.Deep, .int .i64 p0.At, .int .i64 p0.E] 153] [] cl_111 hI hE rfl rfl (fun hIp => (ref06_P_take.ok k) _ _ _ hy83 _ _ _ _ _ _ hIp (h4.mono hg61)) rfl ?_; clear hE hI
  rintro a w _ G85 _ ⟨rfl, rfl⟩ hg84 hI hE; refine c_end ?_; refine xT ?_; refine c_if (b := y82.1) hE rfl (fun hb92 => ?_) (fun hb92 => ?_); rotate_left
  · replace hF := cf hb92 hF; refine c_skip ?_; refine xB ?_; refine xT ?_; refine c_reg ?_; refine run tt_ok 3 hE rfl fun a hE => ?_; refine c_end ?_; refine xT ?_; cases hF
    have hE := hE.setI (t := 5) rfl (w64_succ hlt73 (len_le h7)); exact ⟨rest70.length, Nat.lt_succ_self _, i68 + 1, rest70, _, G85, rfl, hlt73, hd71, hO59, (hg61.trans hg84), hE.keep ⟨rfl, rfl, rfl, trivial⟩, hI⟩
  replace hF := ct hb92 hF; refine c_seq ?_; refine c_reg ?_; refine run tt_ok 2 hE rfl fun a hE => ?_; obtain ⟨b87, o88, cs, hb91, hR90, hA89⟩ := sl_at (h7.mono (hg61.trans hg84)) (Int.natCast_nonneg _) (natIdx hx72)
  obtain rfl := rep_str.1 hR90; refine s_rt hI hE rfl (f_idx tt_ok hb91 rfl rfl rfl) rfl fun a hE => ?_; refine s_rt hI hE rfl (f_loadG tt_ok hA89 0 rfl rfl rfl rfl) rfl fun a hE => ?_
  refine run tt_ok 1 hE rfl fun a hE => ?_; refine c_end ?_; refine xT ?_; refine c_ret ?_; refine xBr ?_; refine xTr ?_; refine xTr ?_; refine xBr ?_; refine xTr ?_; refine xTr ?_
  cases hF; obtain rfl := nxt_ret hO59; have hF := lrk_ret hK60; cases hF; refine r_ret (v := _) hE rfl ⟨_, _, _, rfl, hI, rfl, rfl⟩

theorem cl_117 : Callable Try.prog 117 := ⟨_, Try.func117, by kernel_rfl, by kernel_rfl⟩

def ref06_P_int.C (s : Tref06_P → Option (Int × Tref06_P)) : Prop := ∀ (p0 : Tref06_P) (r : Int × Tref06_P), s p0 = some r → ∀ (w0 : World) (G0 : GH) (D0 : List Nat) (b1 : Nat) (A2 : Option Addr) (c3 : Nat), Inv w0 G0 D0 G0 [.blk b1 [.slice A2 p0.T.length c3, .int .i64 p0.I, .int .i64 p0.Deep, .int .i64 p0.At, .int .i64 p0.E] 153] w0 → (Sl G0 A2 c3 4 (p0.T.map TToken.d)) → Calls Try.prog 117 #[.pointer (some ⟨b1, 0, none⟩)] w0 (Ret w0 G0 D0 fun G' L' v => L' = [.blk b1 [.slice A2 p0.T.length c3, .int .i64 r.2.I, .int .i64 p0.Deep, .int .i64 r.2.At, .int .i64 r.2.E] 153] ∧ v = .int .i64 r.1)

theorem ref06_P_int.ok (k : Nat) : ref06_P_int.C (ref06_P_int k) := by
  intro p0 r hF w0 G0 D0 b1 A2 c3 hI h4
  unfold ref06_P_int at hF
  refine calls_of_wp Try.func117 rfl ?_
  have hE : Env _ 43 [(0, .pointer (some ⟨b1, 0, none⟩))] := Env.start ⟨[.pointer (some ⟨b1, 0, none⟩)]⟩ 42
  refine c_seq ?_; refine c_reg ?_; refine run tt_ok 1 hE rfl fun a hE => ?_; refine c_end ?_; refine xT ?_; refine c_seq ?_; refine c_seq ?_; obtain ⟨m16, hF, hR18⟩ := bd hF
  refine c_cut (fun a' w' => ∃ (G14 : GH), G0.le G14 ∧ Env a' 43 [(0, .pointer (some ⟨b1, 0, none⟩)), (21, .bool m16)] ∧ Inv w0 G0 D0 G14 [.blk b1 [.slice A2 p0.T.length c3, .int .i64 p0.I, .int .i64 p0.Deep, .int .i64 p0.At, .int .i64 p0.E] 153] w') ?_ ?_
  · refine c_draw mixed (by kernel_rfl) hI ?_; clear hI; refine runq tt_ok 3 hE rfl fun a hE => ?_; refine q_rt hE rfl (f_loadB tt_ok 0 rfl rfl rfl rfl) rfl fun a hE => ?_; refine runq tt_ok 2 hE rfl fun a hE => ?_
    rcases bool_or (!decide (p0.E = (0 : Int))) with hb38 | hb38
    · replace hF := ct hb38 hF; have hE := hE.tr (t := 8) rfl hb38; clear hb38; refine runq tt_ok 13 hE rfl fun a hE => ?_; refine q_end ?_; intro w hI; refine xT ?_; cases hF
      exact ⟨G0, (GH.le.refl _), hE.keep ⟨rfl, rfl, trivial⟩, hI⟩
    replace hF := cf hb38 hF; have hE := hE.tr (t := 8) rfl hb38; clear hb38; refine runq tt_ok 3 hE rfl fun a hE => ?_; refine q_rt hE rfl (f_loadB tt_ok 0 rfl rfl rfl rfl) rfl fun a hE => ?_
    refine runq tt_ok 3 hE rfl fun a hE => ?_; refine q_rt hE rfl (f_loadB tt_ok 0 rfl rfl rfl rfl) rfl fun a hE => ?_; obtain ⟨y43, hy44, hF⟩ := bd hF
    obtain ⟨b39, o40, cs, hb45, hR42, hA41⟩ := sl_at h4 (getO_some hy44).1 (getO_some hy44).2; obtain rfl := TToken.inv.1 hR42; refine q_rt hE rfl (f_idx tt_ok hb45 rfl rfl rfl) rfl fun a hE => ?_
    refine runq tt_ok 1 hE rfl fun a hE => ?_; refine q_rt hE rfl (f_loadG tt_ok hA41 0 rfl rfl rfl rfl) rfl fun a hE => ?_; refine runq tt_ok 2 hE rfl fun a hE => ?_; refine q_end ?_; intro w hI; refine xT ?_; cases hF
    exact ⟨G0, (GH.le.refl _), hE.keep ⟨rfl, rfl, trivial⟩, hI⟩
  clear hE hI; rintro a w ⟨G14, hg17, hE, hI⟩; clear hF; have hF := hR18; clear hR18; refine xT ?_; refine c_if (b := m16) hE rfl (fun hb37 => ?_) (fun hb37 => ?_)
  · replace hF := ct hb37 hF; refine c_seq ?_; refine c_reg ?_; refine run tt_ok 1 hE rfl fun a hE => ?_; obtain ⟨y19, hy20, hF⟩ := bd hF
    refine s_callM [.blk b1 [.slice A2 p0.T.length c3, .int .i64 p0.I, .int .i64 p0.Deep, .int .i64 p0.At, .int .i64 p0.E] 153] [] cl_118 hI hE rfl rfl (fun hIp => (ref06_P_bad.ok k) _ _ _ hy20 _ _ _ _ _ _ hIp (h4.mono hg17)) rfl ?_; clear hE hI
    rintro a w _ G22 _ ⟨rfl, rfl⟩ hg21 hI hE; refine c_end ?_; refine xT ?_; refine c_seq ?_; refine c_reg ?_; refine run tt_ok 1 hE rfl fun a hE => ?_; refine c_end ?_; refine xT ?_; refine c_ret ?_; refine xTr ?_; cases hF
    refine r_ret (v := _) hE rfl ⟨_, _, _, rfl, hI, rfl, rfl⟩
  replace hF := cf hb37 hF; refine c_skip ?_; refine xT ?_; refine c_seq ?_; refine c_reg ?_; refine run tt_ok 3 hE rfl fun a hE => ?_; refine s_rt hI hE rfl (f_loadB tt_ok 0 rfl rfl rfl rfl) rfl fun a hE => ?_
  refine run tt_ok 3 hE rfl fun a hE => ?_; refine s_storeB tt_ok 0 hI hE rfl rfl rfl rfl rfl rfl rfl rfl rfl rfl fun a w hE hI => ?_; refine c_end ?_; refine xT ?_; refine c_seq ?_
  refine c_draw mixed (by kernel_rfl) hI ?_; clear hI; refine runq tt_ok 3 hE rfl fun a hE => ?_; refine q_rt hE rfl (f_loadB tt_ok 0 rfl rfl rfl rfl) rfl fun a hE => ?_; refine runq tt_ok 3 hE rfl fun a hE => ?_
  refine q_rt hE rfl (f_loadB tt_ok 0 rfl rfl rfl rfl) rfl fun a hE => ?_; refine runq tt_ok 1 hE rfl fun a hE => ?_; obtain ⟨y34, hy35, hF⟩ := bd hF
  obtain ⟨b30, o31, cs, hb36, hR33, hA32⟩ := sl_at (h4.mono hg17) (getO_some hy35).1 (getO_some hy35).2; obtain rfl := TToken.inv.1 hR33; refine q_rt hE rfl (f_idx tt_ok hb36 rfl rfl rfl) rfl fun a hE => ?_
  refine runq tt_ok 1 hE rfl fun a hE => ?_; refine q_rt hE rfl (f_loadG tt_ok hA32 2 rfl rfl rfl rfl) rfl fun a hE => ?_; refine runq tt_ok 1 hE rfl fun a hE => ?_; refine q_end ?_; intro w hI; refine xT ?_
  refine c_ret ?_; cases hF; refine r_ret (v := _) hE rfl ⟨_, _, _, rfl, hI, rfl, rfl⟩

theorem cl_128 : Callable Try.prog 128 := ⟨_, Try.func128, by kernel_rfl, by kernel_rfl⟩

def ref06_P_Expr.C (s : Tref06_P → Option (TExpr × Tref06_P)) : Prop := ∀ (p0 : Tref06_P) (r : TExpr × Tref06_P), s p0 = some r → ∀ (w0 : World) (G0 : GH) (D0 : List Nat) (b1 : Nat) (A2 : Option Addr) (c3 : Nat), Inv w0 G0 D0 G0 [.blk b1 [.slice A2 p0.T.length c3, .int .i64 p0.I, .int .i64 p0.Deep, .int .i64 p0.At, .int .i64 p0.E] 153] w0 → (Sl G0 A2 c3 4 (p0.T.map TToken.d)) → Calls Try.prog 128 #[.pointer (some ⟨b1, 0, none⟩)] w0 (Ret w0 G0 D0 fun G' L' v => ∃ cs0, L' = [.blk b1 [.slice A2 p0.T.length c3, .int .i64 r.2.I, .int .i64 r.2.Deep, .int .i64 r.2.At, .int .i64 r.2.E] 153] ∧ v = .agg ⟨cs0⟩ ∧ Rep G' r.1.d cs0)

theorem cl_135 : Callable Try.prog 135 := ⟨_, Try.func135, by kernel_rfl, by kernel_rfl⟩

def ref06_P_and.C (s : Tref06_P → Option (TExpr × Tref06_P)) : Prop := ∀ (p0 : Tref06_P) (r : TExpr × Tref06_P), s p0 = some r → ∀ (w0 : World) (G0 : GH) (D0 : List Nat) (b1 : Nat) (A2 : Option Addr) (c3 : Nat), Inv w0 G0 D0 G0 [.blk b1 [.slice A2 p0.T.length c3, .int .i64 p0.I, .int .i64 p0.Deep, .int .i64 p0.At, .int .i64 p0.E] 153] w0 → (Sl G0 A2 c3 4 (p0.T.map TToken.d)) → Calls Try.prog 135 #[.pointer (some ⟨b1, 0, none⟩)] w0 (Ret w0 G0 D0 fun G' L' v => ∃ cs0, L' = [.blk b1 [.slice A2 p0.T.length c3, .int .i64 r.2.I, .int .i64 r.2.Deep, .int .i64 r.2.At, .int .i64 r.2.E] 153] ∧ v = .agg ⟨cs0⟩ ∧ Rep G' r.1.d cs0)

theorem cl_137 : Callable Try.prog 137 := ⟨_, Try.func137, by kernel_rfl, by kernel_rfl⟩

def ref06_P_not.C (s : Tref06_P → Option (TExpr × Tref06_P)) : Prop := ∀ (p0 : Tref06_P) (r : TExpr × Tref06_P), s p0 = some r → ∀ (w0 : World) (G0 : GH) (D0 : List Nat) (b1 : Nat) (A2 : Option Addr) (c3 : Nat), Inv w0 G0 D0 G0 [.blk b1 [.slice A2 p0.T.length c3, .int .i64 p0.I, .int .i64 p0.Deep, .int .i64 p0.At, .int .i64 p0.E] 153] w0 → (Sl G0 A2 c3 4 (p0.T.map TToken.d)) → Calls Try.prog 137 #[.pointer (some ⟨b1, 0, none⟩)] w0 (Ret w0 G0 D0 fun G' L' v => ∃ cs0, L' = [.blk b1 [.slice A2 p0.T.length c3, .int .i64 r.2.I, .int .i64 r.2.Deep, .int .i64 r.2.At, .int .i64 r.2.E] 153] ∧ v = .agg ⟨cs0⟩ ∧ Rep G' r.1.d cs0)

theorem cl_138 : Callable Try.prog 138 := ⟨_, Try.func138, by kernel_rfl, by kernel_rfl⟩

def ref06_P_cmp.C (s : Tref06_P → Option (TExpr × Tref06_P)) : Prop := ∀ (p0 : Tref06_P) (r : TExpr × Tref06_P), s p0 = some r → ∀ (w0 : World) (G0 : GH) (D0 : List Nat) (b1 : Nat) (A2 : Option Addr) (c3 : Nat), Inv w0 G0 D0 G0 [.blk b1 [.slice A2 p0.T.length c3, .int .i64 p0.I, .int .i64 p0.Deep, .int .i64 p0.At, .int .i64 p0.E] 153] w0 → (Sl G0 A2 c3 4 (p0.T.map TToken.d)) → Calls Try.prog 138 #[.pointer (some ⟨b1, 0, none⟩)] w0 (Ret w0 G0 D0 fun G' L' v => ∃ cs0, L' = [.blk b1 [.slice A2 p0.T.length c3, .int .i64 r.2.I, .int .i64 r.2.Deep, .int .i64 r.2.At, .int .i64 r.2.E] 153] ∧ v = .agg ⟨cs0⟩ ∧ Rep G' r.1.d cs0)

theorem cl_139 : Callable Try.prog 139 := ⟨_, Try.func139, by kernel_rfl, by kernel_rfl⟩

def ref06_P_sum.C (s : Tref06_P → Option (TExpr × Tref06_P)) : Prop := ∀ (p0 : Tref06_P) (r : TExpr × Tref06_P), s p0 = some r → ∀ (w0 : World) (G0 : GH) (D0 : List Nat) (b1 : Nat) (A2 : Option Addr) (c3 : Nat), Inv w0 G0 D0 G0 [.blk b1 [.slice A2 p0.T.length c3, .int .i64 p0.I, .int .i64 p0.Deep, .int .i64 p0.At, .int .i64 p0.E] 153] w0 → (Sl G0 A2 c3 4 (p0.T.map TToken.d)) → Calls Try.prog 139 #[.pointer (some ⟨b1, 0, none⟩)] w0 (Ret w0 G0 D0 fun G' L' v => ∃ cs0, L' = [.blk b1 [.slice A2 p0.T.length c3, .int .i64 r.2.I, .int .i64 r.2.Deep, .int .i64 r.2.At, .int .i64 r.2.E] 153] ∧ v = .agg ⟨cs0⟩ ∧ Rep G' r.1.d cs0)

theorem cl_141 : Callable Try.prog 141 := ⟨_, Try.func141, by kernel_rfl, by kernel_rfl⟩

def ref06_P_Query.C (s : Tref06_P → Option (TQuery × Tref06_P)) : Prop := ∀ (p0 : Tref06_P) (r : TQuery × Tref06_P), s p0 = some r → ∀ (w0 : World) (G0 : GH) (D0 : List Nat) (b1 : Nat) (A2 : Option Addr) (c3 : Nat), Inv w0 G0 D0 G0 [.blk b1 [.slice A2 p0.T.length c3, .int .i64 p0.I, .int .i64 p0.Deep, .int .i64 p0.At, .int .i64 p0.E] 153] w0 → (Sl G0 A2 c3 4 (p0.T.map TToken.d)) → Calls Try.prog 141 #[.pointer (some ⟨b1, 0, none⟩)] w0 (Ret w0 G0 D0 fun G' L' v => ∃ cs0, L' = [.blk b1 [.slice A2 p0.T.length c3, .int .i64 r.2.I, .int .i64 r.2.Deep, .int .i64 r.2.At, .int .i64 r.2.E] 153] ∧ v = .agg ⟨cs0⟩ ∧ Rep G' r.1.d cs0)

theorem cl_142 : Callable Try.prog 142 := ⟨_, Try.func142, by kernel_rfl, by kernel_rfl⟩

def ref06_P_prod.C (s : Tref06_P → Option (TExpr × Tref06_P)) : Prop := ∀ (p0 : Tref06_P) (r : TExpr × Tref06_P), s p0 = some r → ∀ (w0 : World) (G0 : GH) (D0 : List Nat) (b1 : Nat) (A2 : Option Addr) (c3 : Nat), Inv w0 G0 D0 G0 [.blk b1 [.slice A2 p0.T.length c3, .int .i64 p0.I, .int .i64 p0.Deep, .int .i64 p0.At, .int .i64 p0.E] 153] w0 → (Sl G0 A2 c3 4 (p0.T.map TToken.d)) → Calls Try.prog 142 #[.pointer (some ⟨b1, 0, none⟩)] w0 (Ret w0 G0 D0 fun G' L' v => ∃ cs0, L' = [.blk b1 [.slice A2 p0.T.length c3, .int .i64 r.2.I, .int .i64 r.2.Deep, .int .i64 r.2.At, .int .i64 r.2.E] 153] ∧ v = .agg ⟨cs0⟩ ∧ Rep G' r.1.d cs0)

theorem cl_143 : Callable Try.prog 143 := ⟨_, Try.func143, by kernel_rfl, by kernel_rfl⟩

def ref06_P_part.C (s : Tref06_P → Option (TQuery × Tref06_P)) : Prop := ∀ (p0 : Tref06_P) (r : TQuery × Tref06_P), s p0 = some r → ∀ (w0 : World) (G0 : GH) (D0 : List Nat) (b1 : Nat) (A2 : Option Addr) (c3 : Nat), Inv w0 G0 D0 G0 [.blk b1 [.slice A2 p0.T.length c3, .int .i64 p0.I, .int .i64 p0.Deep, .int .i64 p0.At, .int .i64 p0.E] 153] w0 → (Sl G0 A2 c3 4 (p0.T.map TToken.d)) → Calls Try.prog 143 #[.pointer (some ⟨b1, 0, none⟩)] w0 (Ret w0 G0 D0 fun G' L' v => ∃ cs0, L' = [.blk b1 [.slice A2 p0.T.length c3, .int .i64 r.2.I, .int .i64 r.2.Deep, .int .i64 r.2.At, .int .i64 r.2.E] 153] ∧ v = .agg ⟨cs0⟩ ∧ Rep G' r.1.d cs0)

theorem cl_144 : Callable Try.prog 144 := ⟨_, Try.func144, by kernel_rfl, by kernel_rfl⟩

def ref06_P_unary.C (s : Tref06_P → Option (TExpr × Tref06_P)) : Prop := ∀ (p0 : Tref06_P) (r : TExpr × Tref06_P), s p0 = some r → ∀ (w0 : World) (G0 : GH) (D0 : List Nat) (b1 : Nat) (A2 : Option Addr) (c3 : Nat), Inv w0 G0 D0 G0 [.blk b1 [.slice A2 p0.T.length c3, .int .i64 p0.I, .int .i64 p0.Deep, .int .i64 p0.At, .int .i64 p0.E] 153] w0 → (Sl G0 A2 c3 4 (p0.T.map TToken.d)) → Calls Try.prog 144 #[.pointer (some ⟨b1, 0, none⟩)] w0 (Ret w0 G0 D0 fun G' L' v => ∃ cs0, L' = [.blk b1 [.slice A2 p0.T.length c3, .int .i64 r.2.I, .int .i64 r.2.Deep, .int .i64 r.2.At, .int .i64 r.2.E] 153] ∧ v = .agg ⟨cs0⟩ ∧ Rep G' r.1.d cs0)

theorem cl_145 : Callable Try.prog 145 := ⟨_, Try.func145, by kernel_rfl, by kernel_rfl⟩

def ref06_P_src.C (s : Tref06_P → Option (TFrom × Tref06_P)) : Prop := ∀ (p0 : Tref06_P) (r : TFrom × Tref06_P), s p0 = some r → ∀ (w0 : World) (G0 : GH) (D0 : List Nat) (b1 : Nat) (A2 : Option Addr) (c3 : Nat), Inv w0 G0 D0 G0 [.blk b1 [.slice A2 p0.T.length c3, .int .i64 p0.I, .int .i64 p0.Deep, .int .i64 p0.At, .int .i64 p0.E] 153] w0 → (Sl G0 A2 c3 4 (p0.T.map TToken.d)) → Calls Try.prog 145 #[.pointer (some ⟨b1, 0, none⟩)] w0 (Ret w0 G0 D0 fun G' L' v => ∃ cs0, L' = [.blk b1 [.slice A2 p0.T.length c3, .int .i64 r.2.I, .int .i64 r.2.Deep, .int .i64 r.2.At, .int .i64 r.2.E] 153] ∧ v = .agg ⟨cs0⟩ ∧ Rep G' r.1.d cs0)
end Go.Proofs.Ytliaopbgkcdibaa
