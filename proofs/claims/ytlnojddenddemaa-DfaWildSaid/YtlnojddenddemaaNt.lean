/- What the types of the program are. -/
import Derived.KernelRfl
import Derived.Test.YtlnojddenddemaaEA
import Derived.Test.YtlnojddenddemaaProg
set_option linter.unusedVariables false
set_option linter.unusedSimpArgs false
set_option maxRecDepth 100000
noncomputable section
namespace Go.Det
open Go.Proofs
theorem ag22 : dagg Try.prog 22 = some false := by kernel_rfl
theorem ag26 : dagg Try.prog 26 = some false := by kernel_rfl
theorem ag3 : dagg Try.prog 3 = some false := by kernel_rfl
theorem ag4 : dagg Try.prog 4 = some false := by kernel_rfl
theorem ag41 : dagg Try.prog 41 = some true := by kernel_rfl
theorem ag43 : dagg Try.prog 43 = some false := by kernel_rfl
theorem ag5 : dagg Try.prog 5 = some false := by kernel_rfl
theorem ag51 : dagg Try.prog 51 = some true := by kernel_rfl
theorem ag52 : dagg Try.prog 52 = some false := by kernel_rfl
theorem ag54 : dagg Try.prog 54 = some true := by kernel_rfl
theorem ag62 : dagg Try.prog 62 = some false := by kernel_rfl
theorem ag69 : dagg Try.prog 69 = some true := by kernel_rfl
theorem ag73 : dagg Try.prog 73 = some false := by kernel_rfl
theorem ag75 : dagg Try.prog 75 = some true := by kernel_rfl
theorem ag83 : dagg Try.prog 83 = some false := by kernel_rfl
theorem ag84 : dagg Try.prog 84 = some false := by kernel_rfl
theorem ag88 : dagg Try.prog 88 = some false := by kernel_rfl
theorem ag9 : dagg Try.prog 9 = some false := by kernel_rfl
theorem ag90 : dagg Try.prog 90 = some true := by kernel_rfl
theorem ar39 : tarr Try.prog 39 = some ⟨256, 3⟩ := by kernel_rfl
theorem ar48 : tarr Try.prog 48 = some ⟨4, 5⟩ := by kernel_rfl
theorem ar90 : tarr Try.prog 90 = some ⟨256, 4⟩ := by kernel_rfl
theorem by3 : tbytes Try.prog 3 = some 8 := by kernel_rfl
theorem by4 : tbytes Try.prog 4 = some 1 := by kernel_rfl
theorem by41 : tbytes Try.prog 41 = some 2056 := by kernel_rfl
theorem by43 : tbytes Try.prog 43 = some 24 := by kernel_rfl
theorem by5 : tbytes Try.prog 5 = some 1 := by kernel_rfl
theorem by51 : tbytes Try.prog 51 = some 2 := by kernel_rfl
theorem by54 : tbytes Try.prog 54 = some 32 := by kernel_rfl
theorem by69 : tbytes Try.prog 69 = some 16 := by kernel_rfl
theorem by75 : tbytes Try.prog 75 = some 48 := by kernel_rfl
theorem by88 : tbytes Try.prog 88 = some 24 := by kernel_rfl
theorem by98 : tbytes Try.prog 98 = some 40 := by kernel_rfl
theorem cv3_5 : ∀ k n, pureFlat Try.prog (convert 3 5 (.int k n)) = some (.int .u8 (IntKind.wrap .u8 n)) := by intro k n; kernel_rfl
theorem cv5_3 : ∀ k n, pureFlat Try.prog (convert 5 3 (.int k n)) = some (.int .i64 (IntKind.wrap .i64 n)) := by intro k n; kernel_rfl
theorem el22 : telem Try.prog 22 = some 5 := by kernel_rfl
theorem el24 : telem Try.prog 24 = some 43 := by kernel_rfl
theorem el26 : telem Try.prog 26 = some 75 := by kernel_rfl
theorem el29 : telem Try.prog 29 = some 9 := by kernel_rfl
theorem el35 : telem Try.prog 35 = some 41 := by kernel_rfl
theorem el43 : telem Try.prog 43 = some 54 := by kernel_rfl
theorem el47 : telem Try.prog 47 = some 48 := by kernel_rfl
theorem el52 : telem Try.prog 52 = some 51 := by kernel_rfl
theorem el57 : telem Try.prog 57 = some 98 := by kernel_rfl
theorem el62 : telem Try.prog 62 = some 69 := by kernel_rfl
theorem el73 : telem Try.prog 73 = some 3 := by kernel_rfl
theorem el76 : telem Try.prog 76 = some 4 := by kernel_rfl
theorem el77 : telem Try.prog 77 = some 4 := by kernel_rfl
theorem el84 : telem Try.prog 84 = some 88 := by kernel_rfl
theorem el88 : telem Try.prog 88 = some 3 := by kernel_rfl
theorem hs100 : lall (hasSize Try.prog) (#[⟨ "l", 22, 0, false, "", "lemmata/lemmataplay", 0⟩, ⟨ "n", 3, 1, false, "", "lemmata/lemmataplay", 24⟩] : Array Field).toList = true := by kernel_rfl
theorem hs41 : lall (hasSize Try.prog) (#[⟨ "Next", 39, 0, false, "", "", 0⟩, ⟨ "End", 3, 256, false, "", "", 2048⟩] : Array Field).toList = true := by kernel_rfl
theorem hs51 : lall (hasSize Try.prog) (#[⟨ "Lo", 5, 0, false, "", "", 0⟩, ⟨ "Hi", 5, 1, false, "", "", 1⟩] : Array Field).toList = true := by kernel_rfl
theorem hs54 : lall (hasSize Try.prog) (#[⟨ "Op", 3, 0, false, "", "", 0⟩, ⟨ "L", 52, 1, false, "", "", 8⟩] : Array Field).toList = true := by kernel_rfl
theorem hs64 : lall (hasSize Try.prog) (#[⟨ "l", 62, 0, false, "", "lemmata/nfa", 0⟩] : Array Field).toList = true := by kernel_rfl
theorem hs66 : lall (hasSize Try.prog) (#[⟨ "l", 26, 0, false, "", "lemmata/nfa", 0⟩, ⟨ "parts", 64, 1, false, "", "lemmata/nfa", 24⟩] : Array Field).toList = true := by kernel_rfl
theorem hs69 : lall (hasSize Try.prog) (#[⟨ "from", 3, 0, false, "", "lemmata/nfa", 0⟩, ⟨ "to", 3, 1, false, "", "lemmata/nfa", 8⟩] : Array Field).toList = true := by kernel_rfl
theorem hs75 : lall (hasSize Try.prog) (#[⟨ "Lo", 5, 0, false, "", "", 0⟩, ⟨ "Hi", 5, 1, false, "", "", 1⟩, ⟨ "Next", 3, 2, false, "", "", 8⟩, ⟨ "Free", 73, 3, false, "", "", 16⟩, ⟨ "End", 3, 4, false, "", "", 40⟩] : Array Field).toList = true := by kernel_rfl
theorem hs86 : lall (hasSize Try.prog) (#[⟨ "l", 26, 0, false, "", "lemmata/dfa", 0⟩, ⟨ "sets", 84, 1, false, "", "lemmata/dfa", 24⟩, ⟨ "at", 83, 2, false, "", "lemmata/dfa", 48⟩] : Array Field).toList = true := by kernel_rfl
theorem hs95 : lall (hasSize Try.prog) (#[⟨ "s", 9, 0, false, "", "lemmata/lemmataref3", 0⟩, ⟨ "at", 3, 1, false, "", "lemmata/lemmataref3", 16⟩, ⟨ "bad", 4, 2, false, "", "lemmata/lemmataref3", 24⟩] : Array Field).toList = true := by kernel_rfl
theorem hs98 : lall (hasSize Try.prog) (#[⟨ "Name", 9, 0, false, "", "", 0⟩, ⟨ "Rex", 9, 1, false, "", "", 16⟩, ⟨ "Skip", 4, 2, false, "", "", 32⟩] : Array Field).toList = true := by kernel_rfl
theorem sl22 : tslice Try.prog 22 = true := by kernel_rfl
theorem sl24 : tslice Try.prog 24 = true := by kernel_rfl
theorem sl26 : tslice Try.prog 26 = true := by kernel_rfl
theorem sl29 : tslice Try.prog 29 = true := by kernel_rfl
theorem sl35 : tslice Try.prog 35 = true := by kernel_rfl
theorem sl39 : tslice Try.prog 39 = false := by kernel_rfl
theorem sl43 : tslice Try.prog 43 = true := by kernel_rfl
theorem sl47 : tslice Try.prog 47 = true := by kernel_rfl
theorem sl48 : tslice Try.prog 48 = false := by kernel_rfl
theorem sl52 : tslice Try.prog 52 = true := by kernel_rfl
theorem sl57 : tslice Try.prog 57 = true := by kernel_rfl
theorem sl62 : tslice Try.prog 62 = true := by kernel_rfl
theorem sl73 : tslice Try.prog 73 = true := by kernel_rfl
theorem sl76 : tslice Try.prog 76 = true := by kernel_rfl
theorem sl77 : tslice Try.prog 77 = true := by kernel_rfl
theorem sl84 : tslice Try.prog 84 = true := by kernel_rfl
theorem sl88 : tslice Try.prog 88 = true := by kernel_rfl
theorem sl90 : tslice Try.prog 90 = false := by kernel_rfl
theorem sz26 : tsize Try.prog 26 = some 1 := by kernel_rfl
theorem sz3 : tsize Try.prog 3 = some 1 := by kernel_rfl
theorem sz4 : tsize Try.prog 4 = some 1 := by kernel_rfl
theorem sz41 : tsize Try.prog 41 = some 257 := by kernel_rfl
theorem sz43 : tsize Try.prog 43 = some 1 := by kernel_rfl
theorem sz48 : tsize Try.prog 48 = some 4 := by kernel_rfl
theorem sz5 : tsize Try.prog 5 = some 1 := by kernel_rfl
theorem sz51 : tsize Try.prog 51 = some 2 := by kernel_rfl
theorem sz54 : tsize Try.prog 54 = some 2 := by kernel_rfl
theorem sz62 : tsize Try.prog 62 = some 1 := by kernel_rfl
theorem sz64 : tsize Try.prog 64 = some 1 := by kernel_rfl
theorem sz69 : tsize Try.prog 69 = some 2 := by kernel_rfl
theorem sz73 : tsize Try.prog 73 = some 1 := by kernel_rfl
theorem sz75 : tsize Try.prog 75 = some 5 := by kernel_rfl
theorem sz84 : tsize Try.prog 84 = some 1 := by kernel_rfl
theorem sz88 : tsize Try.prog 88 = some 1 := by kernel_rfl
theorem sz9 : tsize Try.prog 9 = some 1 := by kernel_rfl
theorem sz90 : tsize Try.prog 90 = some 256 := by kernel_rfl
theorem sz98 : tsize Try.prog 98 = some 3 := by kernel_rfl
theorem tf100_0 : tfieldAt Try.prog 100 0 = some (0, 1) := by kernel_rfl
theorem tf100_1 : tfieldAt Try.prog 100 1 = some (1, 1) := by kernel_rfl
theorem tf41_0 : tfieldAt Try.prog 41 0 = some (0, 256) := by kernel_rfl
theorem tf41_1 : tfieldAt Try.prog 41 1 = some (256, 1) := by kernel_rfl
theorem tf51_0 : tfieldAt Try.prog 51 0 = some (0, 1) := by kernel_rfl
theorem tf51_1 : tfieldAt Try.prog 51 1 = some (1, 1) := by kernel_rfl
theorem tf54_0 : tfieldAt Try.prog 54 0 = some (0, 1) := by kernel_rfl
theorem tf54_1 : tfieldAt Try.prog 54 1 = some (1, 1) := by kernel_rfl
theorem tf64_0 : tfieldAt Try.prog 64 0 = some (0, 1) := by kernel_rfl
theorem tf66_0 : tfieldAt Try.prog 66 0 = some (0, 1) := by kernel_rfl
theorem tf66_1 : tfieldAt Try.prog 66 1 = some (1, 1) := by kernel_rfl
theorem tf69_0 : tfieldAt Try.prog 69 0 = some (0, 1) := by kernel_rfl
theorem tf69_1 : tfieldAt Try.prog 69 1 = some (1, 1) := by kernel_rfl
theorem tf75_0 : tfieldAt Try.prog 75 0 = some (0, 1) := by kernel_rfl
theorem tf75_1 : tfieldAt Try.prog 75 1 = some (1, 1) := by kernel_rfl
theorem tf75_2 : tfieldAt Try.prog 75 2 = some (2, 1) := by kernel_rfl
theorem tf75_3 : tfieldAt Try.prog 75 3 = some (3, 1) := by kernel_rfl
theorem tf75_4 : tfieldAt Try.prog 75 4 = some (4, 1) := by kernel_rfl
theorem tf86_0 : tfieldAt Try.prog 86 0 = some (0, 1) := by kernel_rfl
theorem tf86_1 : tfieldAt Try.prog 86 1 = some (1, 1) := by kernel_rfl
theorem tf86_2 : tfieldAt Try.prog 86 2 = some (2, 1) := by kernel_rfl
theorem tf95_0 : tfieldAt Try.prog 95 0 = some (0, 1) := by kernel_rfl
theorem tf95_1 : tfieldAt Try.prog 95 1 = some (1, 1) := by kernel_rfl
theorem tf95_2 : tfieldAt Try.prog 95 2 = some (2, 1) := by kernel_rfl
theorem tf98_0 : tfieldAt Try.prog 98 0 = some (0, 1) := by kernel_rfl
theorem tf98_1 : tfieldAt Try.prog 98 1 = some (1, 1) := by kernel_rfl
theorem tf98_2 : tfieldAt Try.prog 98 2 = some (2, 1) := by kernel_rfl
theorem ts24 : tstr Try.prog 24 = false := by kernel_rfl
theorem ts43 : tstr Try.prog 43 = false := by kernel_rfl
theorem ts62 : tstr Try.prog 62 = false := by kernel_rfl
theorem ts73 : tstr Try.prog 73 = false := by kernel_rfl
theorem ts9 : tstr Try.prog 9 = true := by kernel_rfl
theorem tu5 : tu8 Try.prog 5 = true := by kernel_rfl
theorem ud100 : Try.prog.underlying 100 = some (.struct #[⟨ "l", 22, 0, false, "", "lemmata/lemmataplay", 0⟩, ⟨ "n", 3, 1, false, "", "lemmata/lemmataplay", 24⟩]) := by kernel_rfl
theorem ud22 : Try.prog.underlying 22 = some (.slice 5) := by kernel_rfl
theorem ud24 : Try.prog.underlying 24 = some (.slice 43) := by kernel_rfl
theorem ud26 : Try.prog.underlying 26 = some (.slice 75) := by kernel_rfl
theorem ud35 : Try.prog.underlying 35 = some (.slice 41) := by kernel_rfl
theorem ud41 : Try.prog.underlying 41 = some (.struct #[⟨ "Next", 39, 0, false, "", "", 0⟩, ⟨ "End", 3, 256, false, "", "", 2048⟩]) := by kernel_rfl
theorem ud43 : Try.prog.underlying 43 = some (.slice 54) := by kernel_rfl
theorem ud47 : Try.prog.underlying 47 = some (.slice 48) := by kernel_rfl
theorem ud51 : Try.prog.underlying 51 = some (.struct #[⟨ "Lo", 5, 0, false, "", "", 0⟩, ⟨ "Hi", 5, 1, false, "", "", 1⟩]) := by kernel_rfl
theorem ud52 : Try.prog.underlying 52 = some (.slice 51) := by kernel_rfl
theorem ud54 : Try.prog.underlying 54 = some (.struct #[⟨ "Op", 3, 0, false, "", "", 0⟩, ⟨ "L", 52, 1, false, "", "", 8⟩]) := by kernel_rfl
theorem ud57 : Try.prog.underlying 57 = some (.slice 98) := by kernel_rfl
theorem ud62 : Try.prog.underlying 62 = some (.slice 69) := by kernel_rfl
theorem ud64 : Try.prog.underlying 64 = some (.struct #[⟨ "l", 62, 0, false, "", "lemmata/nfa", 0⟩]) := by kernel_rfl
theorem ud66 : Try.prog.underlying 66 = some (.struct #[⟨ "l", 26, 0, false, "", "lemmata/nfa", 0⟩, ⟨ "parts", 64, 1, false, "", "lemmata/nfa", 24⟩]) := by kernel_rfl
theorem ud69 : Try.prog.underlying 69 = some (.struct #[⟨ "from", 3, 0, false, "", "lemmata/nfa", 0⟩, ⟨ "to", 3, 1, false, "", "lemmata/nfa", 8⟩]) := by kernel_rfl
theorem ud73 : Try.prog.underlying 73 = some (.slice 3) := by kernel_rfl
theorem ud75 : Try.prog.underlying 75 = some (.struct #[⟨ "Lo", 5, 0, false, "", "", 0⟩, ⟨ "Hi", 5, 1, false, "", "", 1⟩, ⟨ "Next", 3, 2, false, "", "", 8⟩, ⟨ "Free", 73, 3, false, "", "", 16⟩, ⟨ "End", 3, 4, false, "", "", 40⟩]) := by kernel_rfl
theorem ud76 : Try.prog.underlying 76 = some (.slice 4) := by kernel_rfl
theorem ud77 : Try.prog.underlying 77 = some (.slice 4) := by kernel_rfl
theorem ud84 : Try.prog.underlying 84 = some (.slice 88) := by kernel_rfl
theorem ud86 : Try.prog.underlying 86 = some (.struct #[⟨ "l", 26, 0, false, "", "lemmata/dfa", 0⟩, ⟨ "sets", 84, 1, false, "", "lemmata/dfa", 24⟩, ⟨ "at", 83, 2, false, "", "lemmata/dfa", 48⟩]) := by kernel_rfl
theorem ud88 : Try.prog.underlying 88 = some (.slice 3) := by kernel_rfl
theorem ud9 : Try.prog.underlying 9 = some .string := by kernel_rfl
theorem ud95 : Try.prog.underlying 95 = some (.struct #[⟨ "s", 9, 0, false, "", "lemmata/lemmataref3", 0⟩, ⟨ "at", 3, 1, false, "", "lemmata/lemmataref3", 16⟩, ⟨ "bad", 4, 2, false, "", "lemmata/lemmataref3", 24⟩]) := by kernel_rfl
theorem ud98 : Try.prog.underlying 98 = some (.struct #[⟨ "Name", 9, 0, false, "", "", 0⟩, ⟨ "Rex", 9, 1, false, "", "", 16⟩, ⟨ "Skip", 4, 2, false, "", "", 32⟩]) := by kernel_rfl
theorem zc100 : tzeroCells Try.prog 100 = some [(Value.slice none 0 0), (Value.int .i64 0)] := by kernel_rfl
theorem zc41 : tzeroCells Try.prog 41 = some (List.replicate 257 (Value.int .i64 0)) := by kernel_rfl
theorem zc51 : tzeroCells Try.prog 51 = some [(Value.int .u8 0), (Value.int .u8 0)] := by kernel_rfl
theorem zc54 : tzeroCells Try.prog 54 = some [(Value.int .i64 0), (Value.slice none 0 0)] := by kernel_rfl
theorem zc64 : tzeroCells Try.prog 64 = some [(Value.slice none 0 0)] := by kernel_rfl
theorem zc66 : tzeroCells Try.prog 66 = some [(Value.slice none 0 0), (Value.slice none 0 0)] := by kernel_rfl
theorem zc69 : tzeroCells Try.prog 69 = some [(Value.int .i64 0), (Value.int .i64 0)] := by kernel_rfl
theorem zc75 : tzeroCells Try.prog 75 = some [(Value.int .u8 0), (Value.int .u8 0), (Value.int .i64 0), (Value.slice none 0 0), (Value.int .i64 0)] := by kernel_rfl
theorem zc86 : tzeroCells Try.prog 86 = some [(Value.slice none 0 0), (Value.slice none 0 0), (Value.map none)] := by kernel_rfl
theorem zc90 : tzeroCells Try.prog 90 = some (List.replicate 256 (Value.bool false)) := by kernel_rfl
theorem zc95 : tzeroCells Try.prog 95 = some [(Value.string ⟨#[]⟩), (Value.int .i64 0), (Value.bool false)] := by kernel_rfl
theorem zc98 : tzeroCells Try.prog 98 = some [(Value.string ⟨#[]⟩), (Value.string ⟨#[]⟩), (Value.bool false)] := by kernel_rfl
theorem zr3 : tzeroRow Try.prog 3 = some [(Value.int .i64 0)] := by kernel_rfl
theorem zr4 : tzeroRow Try.prog 4 = some [(Value.bool false)] := by kernel_rfl
theorem zr41 : tzeroRow Try.prog 41 = some (List.replicate 257 (Value.int .i64 0)) := by kernel_rfl
theorem zr43 : tzeroRow Try.prog 43 = some [(Value.slice none 0 0)] := by kernel_rfl
theorem zr5 : tzeroRow Try.prog 5 = some [(Value.int .u8 0)] := by kernel_rfl
theorem zr51 : tzeroRow Try.prog 51 = some [(Value.int .u8 0), (Value.int .u8 0)] := by kernel_rfl
theorem zr54 : tzeroRow Try.prog 54 = some [(Value.int .i64 0), (Value.slice none 0 0)] := by kernel_rfl
theorem zr69 : tzeroRow Try.prog 69 = some [(Value.int .i64 0), (Value.int .i64 0)] := by kernel_rfl
theorem zr75 : tzeroRow Try.prog 75 = some [(Value.int .u8 0), (Value.int .u8 0), (Value.int .i64 0), (Value.slice none 0 0), (Value.int .i64 0)] := by kernel_rfl
theorem zr88 : tzeroRow Try.prog 88 = some [(Value.slice none 0 0)] := by kernel_rfl
theorem zr9 : tzeroRow Try.prog 9 = some [(Value.string ⟨#[]⟩)] := by kernel_rfl
theorem zr98 : tzeroRow Try.prog 98 = some [(Value.string ⟨#[]⟩), (Value.string ⟨#[]⟩), (Value.bool false)] := by kernel_rfl
end Go.Det
end
