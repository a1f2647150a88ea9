/- What the types of the program are. -/
import Derived.KernelRfl
import Derived.Test.YtlcjcokniplghaaEA
import Derived.Test.YtlcjcokniplghaaProg
set_option linter.unusedVariables false
set_option linter.unusedSimpArgs false
set_option maxRecDepth 100000
noncomputable section
namespace Go.Det
open Go.Proofs
theorem ag101 : dagg Try.prog 101 = some true := by kernel_rfl
theorem ag108 : dagg Try.prog 108 = some true := by kernel_rfl
theorem ag110 : dagg Try.prog 110 = some false := by kernel_rfl
theorem ag112 : dagg Try.prog 112 = some true := by kernel_rfl
theorem ag114 : dagg Try.prog 114 = some false := by kernel_rfl
theorem ag115 : dagg Try.prog 115 = some false := by kernel_rfl
theorem ag116 : dagg Try.prog 116 = some false := by kernel_rfl
theorem ag131 : dagg Try.prog 131 = some true := by kernel_rfl
theorem ag134 : dagg Try.prog 134 = some true := by kernel_rfl
theorem ag178 : dagg Try.prog 178 = some true := by kernel_rfl
theorem ag190 : dagg Try.prog 190 = some false := by kernel_rfl
theorem ag194 : dagg Try.prog 194 = some true := by kernel_rfl
theorem ag217 : dagg Try.prog 217 = some false := by kernel_rfl
theorem ag22 : dagg Try.prog 22 = some false := by kernel_rfl
theorem ag221 : dagg Try.prog 221 = some true := by kernel_rfl
theorem ag24 : dagg Try.prog 24 = some false := by kernel_rfl
theorem ag25 : dagg Try.prog 25 = some false := by kernel_rfl
theorem ag26 : dagg Try.prog 26 = some false := by kernel_rfl
theorem ag28 : dagg Try.prog 28 = some true := by kernel_rfl
theorem ag3 : dagg Try.prog 3 = some false := by kernel_rfl
theorem ag32 : dagg Try.prog 32 = some false := by kernel_rfl
theorem ag34 : dagg Try.prog 34 = some false := by kernel_rfl
theorem ag35 : dagg Try.prog 35 = some false := by kernel_rfl
theorem ag37 : dagg Try.prog 37 = some true := by kernel_rfl
theorem ag39 : dagg Try.prog 39 = some false := by kernel_rfl
theorem ag4 : dagg Try.prog 4 = some false := by kernel_rfl
theorem ag41 : dagg Try.prog 41 = some true := by kernel_rfl
theorem ag5 : dagg Try.prog 5 = some false := by kernel_rfl
theorem ag52 : dagg Try.prog 52 = some true := by kernel_rfl
theorem ag56 : dagg Try.prog 56 = some false := by kernel_rfl
theorem ag58 : dagg Try.prog 58 = some false := by kernel_rfl
theorem ag60 : dagg Try.prog 60 = some true := by kernel_rfl
theorem ag64 : dagg Try.prog 64 = some false := by kernel_rfl
theorem ag65 : dagg Try.prog 65 = some false := by kernel_rfl
theorem ag67 : dagg Try.prog 67 = some true := by kernel_rfl
theorem ag76 : dagg Try.prog 76 = some false := by kernel_rfl
theorem ag78 : dagg Try.prog 78 = some false := by kernel_rfl
theorem ag82 : dagg Try.prog 82 = some false := by kernel_rfl
theorem ag86 : dagg Try.prog 86 = some true := by kernel_rfl
theorem ag9 : dagg Try.prog 9 = some false := by kernel_rfl
theorem ag90 : dagg Try.prog 90 = some true := by kernel_rfl
theorem ag93 : dagg Try.prog 93 = some true := by kernel_rfl
theorem ag99 : dagg Try.prog 99 = some true := by kernel_rfl
theorem ar60 : tarr Try.prog 60 = some ⟨2, 3⟩ := by kernel_rfl
theorem by101 : tbytes Try.prog 101 = some 64 := by kernel_rfl
theorem by134 : tbytes Try.prog 134 = some 104 := by kernel_rfl
theorem by137 : tbytes Try.prog 137 = some 120 := by kernel_rfl
theorem by190 : tbytes Try.prog 190 = some 24 := by kernel_rfl
theorem by194 : tbytes Try.prog 194 = some 24 := by kernel_rfl
theorem by219 : tbytes Try.prog 219 = some 32 := by kernel_rfl
theorem by221 : tbytes Try.prog 221 = some 2 := by kernel_rfl
theorem by3 : tbytes Try.prog 3 = some 8 := by kernel_rfl
theorem by32 : tbytes Try.prog 32 = some 24 := by kernel_rfl
theorem by37 : tbytes Try.prog 37 = some 56 := by kernel_rfl
theorem by4 : tbytes Try.prog 4 = some 1 := by kernel_rfl
theorem by5 : tbytes Try.prog 5 = some 1 := by kernel_rfl
theorem by52 : tbytes Try.prog 52 = some 64 := by kernel_rfl
theorem by60 : tbytes Try.prog 60 = some 16 := by kernel_rfl
theorem by64 : tbytes Try.prog 64 = some 24 := by kernel_rfl
theorem by86 : tbytes Try.prog 86 = some 24 := by kernel_rfl
theorem by9 : tbytes Try.prog 9 = some 16 := by kernel_rfl
theorem by90 : tbytes Try.prog 90 = some 16 := by kernel_rfl
theorem by93 : tbytes Try.prog 93 = some 32 := by kernel_rfl
theorem by99 : tbytes Try.prog 99 = some 40 := by kernel_rfl
theorem cv3_5 : ∀ k n, pureFlat Try.prog (convert 3 5 (.int k n)) = some (.int .u8 (IntKind.wrap .u8 n)) := by intro k n; kernel_rfl
theorem cv5_3 : ∀ k n, pureFlat Try.prog (convert 5 3 (.int k n)) = some (.int .i64 (IntKind.wrap .i64 n)) := by intro k n; kernel_rfl
theorem el132 : telem Try.prog 132 = some 134 := by kernel_rfl
theorem el170 : telem Try.prog 170 = some 190 := by kernel_rfl
theorem el174 : telem Try.prog 174 = some 194 := by kernel_rfl
theorem el184 : telem Try.prog 184 = some 56 := by kernel_rfl
theorem el190 : telem Try.prog 190 = some 219 := by kernel_rfl
theorem el217 : telem Try.prog 217 = some 221 := by kernel_rfl
theorem el22 : telem Try.prog 22 = some 5 := by kernel_rfl
theorem el24 : telem Try.prog 24 = some 99 := by kernel_rfl
theorem el25 : telem Try.prog 25 = some 101 := by kernel_rfl
theorem el26 : telem Try.prog 26 = some 37 := by kernel_rfl
theorem el32 : telem Try.prog 32 = some 3 := by kernel_rfl
theorem el34 : telem Try.prog 34 = some 90 := by kernel_rfl
theorem el35 : telem Try.prog 35 = some 137 := by kernel_rfl
theorem el39 : telem Try.prog 39 = some 52 := by kernel_rfl
theorem el56 : telem Try.prog 56 = some 9 := by kernel_rfl
theorem el58 : telem Try.prog 58 = some 60 := by kernel_rfl
theorem el63 : telem Try.prog 63 = some 28 := by kernel_rfl
theorem el64 : telem Try.prog 64 = some 4 := by kernel_rfl
theorem el65 : telem Try.prog 65 = some 64 := by kernel_rfl
theorem el76 : telem Try.prog 76 = some 86 := by kernel_rfl
theorem el78 : telem Try.prog 78 = some 32 := by kernel_rfl
theorem el79 : telem Try.prog 79 = some 93 := by kernel_rfl
theorem hs101 : lall (hasSize Try.prog) (#[⟨ "Name", 9, 0, false, "", "", 0⟩, ⟨ "Inh", 56, 1, false, "", "", 16⟩, ⟨ "Syn", 56, 2, false, "", "", 40⟩] : Array Field).toList = true := by kernel_rfl
theorem hs108 : lall (hasSize Try.prog) (#[⟨ "At", 3, 0, false, "", "", 0⟩, ⟨ "N", 3, 1, false, "", "", 8⟩, ⟨ "Put", 9, 2, false, "", "", 16⟩] : Array Field).toList = true := by kernel_rfl
theorem hs112 : lall (hasSize Try.prog) (#[⟨ "t", 41, 0, false, "", "lemmata/match", 0⟩, ⟨ "g", 28, 2, false, "", "lemmata/match", 32⟩, ⟨ "spans", 58, 5, false, "", "lemmata/match", 104⟩, ⟨ "ends", 32, 6, false, "", "lemmata/match", 128⟩, ⟨ "leaves", 76, 7, false, "", "lemmata/match", 152⟩] : Array Field).toList = true := by kernel_rfl
theorem hs118 : lall (hasSize Try.prog) (#[⟨ "old", 112, 0, false, "", "lemmata/match", 0⟩, ⟨ "new", 112, 8, false, "", "lemmata/match", 176⟩, ⟨ "were", 116, 16, false, "", "lemmata/match", 352⟩, ⟨ "are", 116, 17, false, "", "lemmata/match", 360⟩, ⟨ "taken", 114, 18, false, "", "lemmata/match", 368⟩, ⟨ "a", 3, 19, false, "", "lemmata/match", 376⟩, ⟨ "b", 3, 20, false, "", "lemmata/match", 384⟩, ⟨ "out", 41, 21, false, "", "lemmata/match", 392⟩, ⟨ "ids", 115, 23, false, "", "lemmata/match", 424⟩] : Array Field).toList = true := by kernel_rfl
theorem hs131 : lall (hasSize Try.prog) (#[⟨ "Kind", 3, 0, false, "", "", 0⟩, ⟨ "I", 2, 1, false, "", "", 8⟩, ⟨ "S", 9, 2, false, "", "", 16⟩, ⟨ "L", 129, 3, false, "", "", 32⟩] : Array Field).toList = true := by kernel_rfl
theorem hs134 : lall (hasSize Try.prog) (#[⟨ "Op", 3, 0, false, "", "", 0⟩, ⟨ "V", 131, 1, false, "", "", 8⟩, ⟨ "Occ", 3, 5, false, "", "", 64⟩, ⟨ "Attr", 3, 6, false, "", "", 72⟩, ⟨ "Args", 132, 7, false, "", "", 80⟩] : Array Field).toList = true := by kernel_rfl
theorem hs137 : lall (hasSize Try.prog) (#[⟨ "Occ", 3, 0, false, "", "", 0⟩, ⟨ "Attr", 3, 1, false, "", "", 8⟩, ⟨ "E", 134, 2, false, "", "", 16⟩] : Array Field).toList = true := by kernel_rfl
theorem hs152 : lall (hasSize Try.prog) (#[⟨ "g", 28, 0, false, "", "lemmata/lemmataref11", 0⟩, ⟨ "table", 78, 3, false, "", "lemmata/lemmataref11", 72⟩, ⟨ "l", 76, 4, false, "", "lemmata/lemmataref11", 96⟩, ⟨ "at", 3, 5, false, "", "lemmata/lemmataref11", 120⟩, ⟨ "t", 41, 6, false, "", "lemmata/lemmataref11", 128⟩, ⟨ "e", 82, 8, false, "", "lemmata/lemmataref11", 160⟩] : Array Field).toList = true := by kernel_rfl
theorem hs178 : lall (hasSize Try.prog) (#[⟨ "tok", 4, 0, false, "", "lemmata/match", 0⟩, ⟨ "at", 3, 1, false, "", "lemmata/match", 8⟩, ⟨ "from", 3, 2, false, "", "lemmata/match", 16⟩, ⟨ "to", 3, 3, false, "", "lemmata/match", 24⟩, ⟨ "end", 4, 4, false, "", "lemmata/match", 32⟩] : Array Field).toList = true := by kernel_rfl
theorem hs194 : lall (hasSize Try.prog) (#[⟨ "Kind", 3, 0, false, "", "", 0⟩, ⟨ "At", 3, 1, false, "", "", 8⟩, ⟨ "Len", 3, 2, false, "", "", 16⟩] : Array Field).toList = true := by kernel_rfl
theorem hs209 : lall (hasSize Try.prog) (#[⟨ "s", 9, 0, false, "", "lemmata/lemmataref3", 0⟩, ⟨ "at", 3, 1, false, "", "lemmata/lemmataref3", 16⟩, ⟨ "bad", 4, 2, false, "", "lemmata/lemmataref3", 24⟩] : Array Field).toList = true := by kernel_rfl
theorem hs219 : lall (hasSize Try.prog) (#[⟨ "Op", 3, 0, false, "", "", 0⟩, ⟨ "L", 217, 1, false, "", "", 8⟩] : Array Field).toList = true := by kernel_rfl
theorem hs221 : lall (hasSize Try.prog) (#[⟨ "Lo", 5, 0, false, "", "", 0⟩, ⟨ "Hi", 5, 1, false, "", "", 1⟩] : Array Field).toList = true := by kernel_rfl
theorem hs28 : lall (hasSize Try.prog) (#[⟨ "Toks", 24, 0, false, "", "", 0⟩, ⟨ "Nts", 25, 1, false, "", "", 24⟩, ⟨ "Prods", 26, 2, false, "", "", 48⟩] : Array Field).toList = true := by kernel_rfl
theorem hs37 : lall (hasSize Try.prog) (#[⟨ "Left", 3, 0, false, "", "", 0⟩, ⟨ "Right", 34, 1, false, "", "", 8⟩, ⟨ "Rules", 35, 2, false, "", "", 32⟩] : Array Field).toList = true := by kernel_rfl
theorem hs41 : lall (hasSize Try.prog) (#[⟨ "Nodes", 39, 0, false, "", "", 0⟩, ⟨ "Next", 3, 1, false, "", "", 24⟩] : Array Field).toList = true := by kernel_rfl
theorem hs52 : lall (hasSize Try.prog) (#[⟨ "ID", 3, 0, false, "", "", 0⟩, ⟨ "Prod", 3, 1, false, "", "", 8⟩, ⟨ "Kind", 3, 2, false, "", "", 16⟩, ⟨ "Text", 9, 3, false, "", "", 24⟩, ⟨ "Kids", 32, 4, false, "", "", 40⟩] : Array Field).toList = true := by kernel_rfl
theorem hs67 : lall (hasSize Try.prog) (#[⟨ "Null", 64, 0, false, "", "", 0⟩, ⟨ "First", 65, 1, false, "", "", 24⟩, ⟨ "Follow", 65, 2, false, "", "", 48⟩] : Array Field).toList = true := by kernel_rfl
theorem hs86 : lall (hasSize Try.prog) (#[⟨ "Kind", 3, 0, false, "", "", 0⟩, ⟨ "Text", 9, 1, false, "", "", 8⟩] : Array Field).toList = true := by kernel_rfl
theorem hs90 : lall (hasSize Try.prog) (#[⟨ "Tok", 4, 0, false, "", "", 0⟩, ⟨ "At", 3, 1, false, "", "", 8⟩] : Array Field).toList = true := by kernel_rfl
theorem hs93 : lall (hasSize Try.prog) (#[⟨ "Nt", 3, 0, false, "", "", 0⟩, ⟨ "Tok", 3, 1, false, "", "", 8⟩, ⟨ "A", 3, 2, false, "", "", 16⟩, ⟨ "B", 3, 3, false, "", "", 24⟩] : Array Field).toList = true := by kernel_rfl
theorem hs97 : lall (hasSize Try.prog) (#[⟨ "l", 22, 0, false, "", "lemmata/lemmataplay", 0⟩, ⟨ "n", 3, 1, false, "", "lemmata/lemmataplay", 24⟩] : Array Field).toList = true := by kernel_rfl
theorem hs99 : lall (hasSize Try.prog) (#[⟨ "Name", 9, 0, false, "", "", 0⟩, ⟨ "Rex", 9, 1, false, "", "", 16⟩, ⟨ "Skip", 4, 2, false, "", "", 32⟩] : Array Field).toList = true := by kernel_rfl
theorem sl132 : tslice Try.prog 132 = true := by kernel_rfl
theorem sl170 : tslice Try.prog 170 = true := by kernel_rfl
theorem sl174 : tslice Try.prog 174 = true := by kernel_rfl
theorem sl184 : tslice Try.prog 184 = true := by kernel_rfl
theorem sl190 : tslice Try.prog 190 = true := by kernel_rfl
theorem sl217 : tslice Try.prog 217 = true := by kernel_rfl
theorem sl22 : tslice Try.prog 22 = true := by kernel_rfl
theorem sl24 : tslice Try.prog 24 = true := by kernel_rfl
theorem sl25 : tslice Try.prog 25 = true := by kernel_rfl
theorem sl26 : tslice Try.prog 26 = true := by kernel_rfl
theorem sl32 : tslice Try.prog 32 = true := by kernel_rfl
theorem sl34 : tslice Try.prog 34 = true := by kernel_rfl
theorem sl35 : tslice Try.prog 35 = true := by kernel_rfl
theorem sl39 : tslice Try.prog 39 = true := by kernel_rfl
theorem sl56 : tslice Try.prog 56 = true := by kernel_rfl
theorem sl58 : tslice Try.prog 58 = true := by kernel_rfl
theorem sl60 : tslice Try.prog 60 = false := by kernel_rfl
theorem sl63 : tslice Try.prog 63 = true := by kernel_rfl
theorem sl64 : tslice Try.prog 64 = true := by kernel_rfl
theorem sl65 : tslice Try.prog 65 = true := by kernel_rfl
theorem sl76 : tslice Try.prog 76 = true := by kernel_rfl
theorem sl78 : tslice Try.prog 78 = true := by kernel_rfl
theorem sl79 : tslice Try.prog 79 = true := by kernel_rfl
theorem sz101 : tsize Try.prog 101 = some 3 := by kernel_rfl
theorem sz108 : tsize Try.prog 108 = some 3 := by kernel_rfl
theorem sz112 : tsize Try.prog 112 = some 8 := by kernel_rfl
theorem sz116 : tsize Try.prog 116 = some 1 := by kernel_rfl
theorem sz131 : tsize Try.prog 131 = some 4 := by kernel_rfl
theorem sz134 : tsize Try.prog 134 = some 8 := by kernel_rfl
theorem sz137 : tsize Try.prog 137 = some 10 := by kernel_rfl
theorem sz178 : tsize Try.prog 178 = some 5 := by kernel_rfl
theorem sz190 : tsize Try.prog 190 = some 1 := by kernel_rfl
theorem sz194 : tsize Try.prog 194 = some 3 := by kernel_rfl
theorem sz219 : tsize Try.prog 219 = some 2 := by kernel_rfl
theorem sz221 : tsize Try.prog 221 = some 2 := by kernel_rfl
theorem sz24 : tsize Try.prog 24 = some 1 := by kernel_rfl
theorem sz25 : tsize Try.prog 25 = some 1 := by kernel_rfl
theorem sz26 : tsize Try.prog 26 = some 1 := by kernel_rfl
theorem sz28 : tsize Try.prog 28 = some 3 := by kernel_rfl
theorem sz3 : tsize Try.prog 3 = some 1 := by kernel_rfl
theorem sz32 : tsize Try.prog 32 = some 1 := by kernel_rfl
theorem sz34 : tsize Try.prog 34 = some 1 := by kernel_rfl
theorem sz35 : tsize Try.prog 35 = some 1 := by kernel_rfl
theorem sz37 : tsize Try.prog 37 = some 3 := by kernel_rfl
theorem sz39 : tsize Try.prog 39 = some 1 := by kernel_rfl
theorem sz4 : tsize Try.prog 4 = some 1 := by kernel_rfl
theorem sz41 : tsize Try.prog 41 = some 2 := by kernel_rfl
theorem sz5 : tsize Try.prog 5 = some 1 := by kernel_rfl
theorem sz52 : tsize Try.prog 52 = some 5 := by kernel_rfl
theorem sz56 : tsize Try.prog 56 = some 1 := by kernel_rfl
theorem sz60 : tsize Try.prog 60 = some 2 := by kernel_rfl
theorem sz64 : tsize Try.prog 64 = some 1 := by kernel_rfl
theorem sz65 : tsize Try.prog 65 = some 1 := by kernel_rfl
theorem sz67 : tsize Try.prog 67 = some 3 := by kernel_rfl
theorem sz82 : tsize Try.prog 82 = some 1 := by kernel_rfl
theorem sz86 : tsize Try.prog 86 = some 2 := by kernel_rfl
theorem sz9 : tsize Try.prog 9 = some 1 := by kernel_rfl
theorem sz90 : tsize Try.prog 90 = some 2 := by kernel_rfl
theorem sz93 : tsize Try.prog 93 = some 4 := by kernel_rfl
theorem sz99 : tsize Try.prog 99 = some 3 := by kernel_rfl
theorem tF41_0 : tfield Try.prog 41 0 = some ⟨ "Nodes", 39, 0, false, "", "", 0⟩ := by kernel_rfl
theorem tf101_0 : tfieldAt Try.prog 101 0 = some (0, 1) := by kernel_rfl
theorem tf101_1 : tfieldAt Try.prog 101 1 = some (1, 1) := by kernel_rfl
theorem tf101_2 : tfieldAt Try.prog 101 2 = some (2, 1) := by kernel_rfl
theorem tf108_0 : tfieldAt Try.prog 108 0 = some (0, 1) := by kernel_rfl
theorem tf108_1 : tfieldAt Try.prog 108 1 = some (1, 1) := by kernel_rfl
theorem tf108_2 : tfieldAt Try.prog 108 2 = some (2, 1) := by kernel_rfl
theorem tf112_0 : tfieldAt Try.prog 112 0 = some (0, 2) := by kernel_rfl
theorem tf112_1 : tfieldAt Try.prog 112 1 = some (2, 3) := by kernel_rfl
theorem tf112_2 : tfieldAt Try.prog 112 2 = some (5, 1) := by kernel_rfl
theorem tf112_3 : tfieldAt Try.prog 112 3 = some (6, 1) := by kernel_rfl
theorem tf112_4 : tfieldAt Try.prog 112 4 = some (7, 1) := by kernel_rfl
theorem tf118_0 : tfieldAt Try.prog 118 0 = some (0, 8) := by kernel_rfl
theorem tf118_1 : tfieldAt Try.prog 118 1 = some (8, 8) := by kernel_rfl
theorem tf118_2 : tfieldAt Try.prog 118 2 = some (16, 1) := by kernel_rfl
theorem tf118_3 : tfieldAt Try.prog 118 3 = some (17, 1) := by kernel_rfl
theorem tf118_4 : tfieldAt Try.prog 118 4 = some (18, 1) := by kernel_rfl
theorem tf118_5 : tfieldAt Try.prog 118 5 = some (19, 1) := by kernel_rfl
theorem tf118_6 : tfieldAt Try.prog 118 6 = some (20, 1) := by kernel_rfl
theorem tf118_7 : tfieldAt Try.prog 118 7 = some (21, 2) := by kernel_rfl
theorem tf118_8 : tfieldAt Try.prog 118 8 = some (23, 1) := by kernel_rfl
theorem tf131_0 : tfieldAt Try.prog 131 0 = some (0, 1) := by kernel_rfl
theorem tf131_1 : tfieldAt Try.prog 131 1 = some (1, 1) := by kernel_rfl
theorem tf131_2 : tfieldAt Try.prog 131 2 = some (2, 1) := by kernel_rfl
theorem tf134_0 : tfieldAt Try.prog 134 0 = some (0, 1) := by kernel_rfl
theorem tf134_1 : tfieldAt Try.prog 134 1 = some (1, 4) := by kernel_rfl
theorem tf134_2 : tfieldAt Try.prog 134 2 = some (5, 1) := by kernel_rfl
theorem tf134_3 : tfieldAt Try.prog 134 3 = some (6, 1) := by kernel_rfl
theorem tf134_4 : tfieldAt Try.prog 134 4 = some (7, 1) := by kernel_rfl
theorem tf137_0 : tfieldAt Try.prog 137 0 = some (0, 1) := by kernel_rfl
theorem tf137_1 : tfieldAt Try.prog 137 1 = some (1, 1) := by kernel_rfl
theorem tf137_2 : tfieldAt Try.prog 137 2 = some (2, 8) := by kernel_rfl
theorem tf152_0 : tfieldAt Try.prog 152 0 = some (0, 3) := by kernel_rfl
theorem tf152_1 : tfieldAt Try.prog 152 1 = some (3, 1) := by kernel_rfl
theorem tf152_2 : tfieldAt Try.prog 152 2 = some (4, 1) := by kernel_rfl
theorem tf152_3 : tfieldAt Try.prog 152 3 = some (5, 1) := by kernel_rfl
theorem tf152_4 : tfieldAt Try.prog 152 4 = some (6, 2) := by kernel_rfl
theorem tf152_5 : tfieldAt Try.prog 152 5 = some (8, 1) := by kernel_rfl
theorem tf178_0 : tfieldAt Try.prog 178 0 = some (0, 1) := by kernel_rfl
theorem tf178_1 : tfieldAt Try.prog 178 1 = some (1, 1) := by kernel_rfl
theorem tf178_2 : tfieldAt Try.prog 178 2 = some (2, 1) := by kernel_rfl
theorem tf178_3 : tfieldAt Try.prog 178 3 = some (3, 1) := by kernel_rfl
theorem tf178_4 : tfieldAt Try.prog 178 4 = some (4, 1) := by kernel_rfl
theorem tf194_0 : tfieldAt Try.prog 194 0 = some (0, 1) := by kernel_rfl
theorem tf194_1 : tfieldAt Try.prog 194 1 = some (1, 1) := by kernel_rfl
theorem tf194_2 : tfieldAt Try.prog 194 2 = some (2, 1) := by kernel_rfl
theorem tf209_0 : tfieldAt Try.prog 209 0 = some (0, 1) := by kernel_rfl
theorem tf209_1 : tfieldAt Try.prog 209 1 = some (1, 1) := by kernel_rfl
theorem tf209_2 : tfieldAt Try.prog 209 2 = some (2, 1) := by kernel_rfl
theorem tf219_0 : tfieldAt Try.prog 219 0 = some (0, 1) := by kernel_rfl
theorem tf219_1 : tfieldAt Try.prog 219 1 = some (1, 1) := by kernel_rfl
theorem tf221_0 : tfieldAt Try.prog 221 0 = some (0, 1) := by kernel_rfl
theorem tf221_1 : tfieldAt Try.prog 221 1 = some (1, 1) := by kernel_rfl
theorem tf28_0 : tfieldAt Try.prog 28 0 = some (0, 1) := by kernel_rfl
theorem tf28_1 : tfieldAt Try.prog 28 1 = some (1, 1) := by kernel_rfl
theorem tf28_2 : tfieldAt Try.prog 28 2 = some (2, 1) := by kernel_rfl
theorem tf37_0 : tfieldAt Try.prog 37 0 = some (0, 1) := by kernel_rfl
theorem tf37_1 : tfieldAt Try.prog 37 1 = some (1, 1) := by kernel_rfl
theorem tf37_2 : tfieldAt Try.prog 37 2 = some (2, 1) := by kernel_rfl
theorem tf41_0 : tfieldAt Try.prog 41 0 = some (0, 1) := by kernel_rfl
theorem tf41_1 : tfieldAt Try.prog 41 1 = some (1, 1) := by kernel_rfl
theorem tf52_0 : tfieldAt Try.prog 52 0 = some (0, 1) := by kernel_rfl
theorem tf52_1 : tfieldAt Try.prog 52 1 = some (1, 1) := by kernel_rfl
theorem tf52_2 : tfieldAt Try.prog 52 2 = some (2, 1) := by kernel_rfl
theorem tf52_3 : tfieldAt Try.prog 52 3 = some (3, 1) := by kernel_rfl
theorem tf52_4 : tfieldAt Try.prog 52 4 = some (4, 1) := by kernel_rfl
theorem tf67_0 : tfieldAt Try.prog 67 0 = some (0, 1) := by kernel_rfl
theorem tf67_1 : tfieldAt Try.prog 67 1 = some (1, 1) := by kernel_rfl
theorem tf67_2 : tfieldAt Try.prog 67 2 = some (2, 1) := by kernel_rfl
theorem tf86_0 : tfieldAt Try.prog 86 0 = some (0, 1) := by kernel_rfl
theorem tf86_1 : tfieldAt Try.prog 86 1 = some (1, 1) := by kernel_rfl
theorem tf90_0 : tfieldAt Try.prog 90 0 = some (0, 1) := by kernel_rfl
theorem tf90_1 : tfieldAt Try.prog 90 1 = some (1, 1) := by kernel_rfl
theorem tf93_0 : tfieldAt Try.prog 93 0 = some (0, 1) := by kernel_rfl
theorem tf93_1 : tfieldAt Try.prog 93 1 = some (1, 1) := by kernel_rfl
theorem tf93_2 : tfieldAt Try.prog 93 2 = some (2, 1) := by kernel_rfl
theorem tf93_3 : tfieldAt Try.prog 93 3 = some (3, 1) := by kernel_rfl
theorem tf97_0 : tfieldAt Try.prog 97 0 = some (0, 1) := by kernel_rfl
theorem tf97_1 : tfieldAt Try.prog 97 1 = some (1, 1) := by kernel_rfl
theorem tf99_0 : tfieldAt Try.prog 99 0 = some (0, 1) := by kernel_rfl
theorem tf99_1 : tfieldAt Try.prog 99 1 = some (1, 1) := by kernel_rfl
theorem tf99_2 : tfieldAt Try.prog 99 2 = some (2, 1) := by kernel_rfl
theorem ts190 : tstr Try.prog 190 = false := by kernel_rfl
theorem ts22 : tstr Try.prog 22 = false := by kernel_rfl
theorem ts34 : tstr Try.prog 34 = false := by kernel_rfl
theorem ts39 : tstr Try.prog 39 = false := by kernel_rfl
theorem ts56 : tstr Try.prog 56 = false := by kernel_rfl
theorem ts76 : tstr Try.prog 76 = false := by kernel_rfl
theorem ts9 : tstr Try.prog 9 = true := by kernel_rfl
theorem tu5 : tu8 Try.prog 5 = true := by kernel_rfl
theorem ud101 : Try.prog.underlying 101 = some (.struct #[⟨ "Name", 9, 0, false, "", "", 0⟩, ⟨ "Inh", 56, 1, false, "", "", 16⟩, ⟨ "Syn", 56, 2, false, "", "", 40⟩]) := by kernel_rfl
theorem ud108 : Try.prog.underlying 108 = some (.struct #[⟨ "At", 3, 0, false, "", "", 0⟩, ⟨ "N", 3, 1, false, "", "", 8⟩, ⟨ "Put", 9, 2, false, "", "", 16⟩]) := by kernel_rfl
theorem ud112 : Try.prog.underlying 112 = some (.struct #[⟨ "t", 41, 0, false, "", "lemmata/match", 0⟩, ⟨ "g", 28, 2, false, "", "lemmata/match", 32⟩, ⟨ "spans", 58, 5, false, "", "lemmata/match", 104⟩, ⟨ "ends", 32, 6, false, "", "lemmata/match", 128⟩, ⟨ "leaves", 76, 7, false, "", "lemmata/match", 152⟩]) := by kernel_rfl
theorem ud118 : Try.prog.underlying 118 = some (.struct #[⟨ "old", 112, 0, false, "", "lemmata/match", 0⟩, ⟨ "new", 112, 8, false, "", "lemmata/match", 176⟩, ⟨ "were", 116, 16, false, "", "lemmata/match", 352⟩, ⟨ "are", 116, 17, false, "", "lemmata/match", 360⟩, ⟨ "taken", 114, 18, false, "", "lemmata/match", 368⟩, ⟨ "a", 3, 19, false, "", "lemmata/match", 376⟩, ⟨ "b", 3, 20, false, "", "lemmata/match", 384⟩, ⟨ "out", 41, 21, false, "", "lemmata/match", 392⟩, ⟨ "ids", 115, 23, false, "", "lemmata/match", 424⟩]) := by kernel_rfl
theorem ud131 : Try.prog.underlying 131 = some (.struct #[⟨ "Kind", 3, 0, false, "", "", 0⟩, ⟨ "I", 2, 1, false, "", "", 8⟩, ⟨ "S", 9, 2, false, "", "", 16⟩, ⟨ "L", 129, 3, false, "", "", 32⟩]) := by kernel_rfl
theorem ud132 : Try.prog.underlying 132 = some (.slice 134) := by kernel_rfl
theorem ud134 : Try.prog.underlying 134 = some (.struct #[⟨ "Op", 3, 0, false, "", "", 0⟩, ⟨ "V", 131, 1, false, "", "", 8⟩, ⟨ "Occ", 3, 5, false, "", "", 64⟩, ⟨ "Attr", 3, 6, false, "", "", 72⟩, ⟨ "Args", 132, 7, false, "", "", 80⟩]) := by kernel_rfl
theorem ud137 : Try.prog.underlying 137 = some (.struct #[⟨ "Occ", 3, 0, false, "", "", 0⟩, ⟨ "Attr", 3, 1, false, "", "", 8⟩, ⟨ "E", 134, 2, false, "", "", 16⟩]) := by kernel_rfl
theorem ud152 : Try.prog.underlying 152 = some (.struct #[⟨ "g", 28, 0, false, "", "lemmata/lemmataref11", 0⟩, ⟨ "table", 78, 3, false, "", "lemmata/lemmataref11", 72⟩, ⟨ "l", 76, 4, false, "", "lemmata/lemmataref11", 96⟩, ⟨ "at", 3, 5, false, "", "lemmata/lemmataref11", 120⟩, ⟨ "t", 41, 6, false, "", "lemmata/lemmataref11", 128⟩, ⟨ "e", 82, 8, false, "", "lemmata/lemmataref11", 160⟩]) := by kernel_rfl
theorem ud170 : Try.prog.underlying 170 = some (.slice 190) := by kernel_rfl
theorem ud174 : Try.prog.underlying 174 = some (.slice 194) := by kernel_rfl
theorem ud178 : Try.prog.underlying 178 = some (.struct #[⟨ "tok", 4, 0, false, "", "lemmata/match", 0⟩, ⟨ "at", 3, 1, false, "", "lemmata/match", 8⟩, ⟨ "from", 3, 2, false, "", "lemmata/match", 16⟩, ⟨ "to", 3, 3, false, "", "lemmata/match", 24⟩, ⟨ "end", 4, 4, false, "", "lemmata/match", 32⟩]) := by kernel_rfl
theorem ud184 : Try.prog.underlying 184 = some (.slice 56) := by kernel_rfl
theorem ud190 : Try.prog.underlying 190 = some (.slice 219) := by kernel_rfl
theorem ud194 : Try.prog.underlying 194 = some (.struct #[⟨ "Kind", 3, 0, false, "", "", 0⟩, ⟨ "At", 3, 1, false, "", "", 8⟩, ⟨ "Len", 3, 2, false, "", "", 16⟩]) := by kernel_rfl
theorem ud209 : Try.prog.underlying 209 = some (.struct #[⟨ "s", 9, 0, false, "", "lemmata/lemmataref3", 0⟩, ⟨ "at", 3, 1, false, "", "lemmata/lemmataref3", 16⟩, ⟨ "bad", 4, 2, false, "", "lemmata/lemmataref3", 24⟩]) := by kernel_rfl
theorem ud217 : Try.prog.underlying 217 = some (.slice 221) := by kernel_rfl
theorem ud219 : Try.prog.underlying 219 = some (.struct #[⟨ "Op", 3, 0, false, "", "", 0⟩, ⟨ "L", 217, 1, false, "", "", 8⟩]) := by kernel_rfl
theorem ud22 : Try.prog.underlying 22 = some (.slice 5) := by kernel_rfl
theorem ud221 : Try.prog.underlying 221 = some (.struct #[⟨ "Lo", 5, 0, false, "", "", 0⟩, ⟨ "Hi", 5, 1, false, "", "", 1⟩]) := by kernel_rfl
theorem ud24 : Try.prog.underlying 24 = some (.slice 99) := by kernel_rfl
theorem ud25 : Try.prog.underlying 25 = some (.slice 101) := by kernel_rfl
theorem ud26 : Try.prog.underlying 26 = some (.slice 37) := by kernel_rfl
theorem ud28 : Try.prog.underlying 28 = some (.struct #[⟨ "Toks", 24, 0, false, "", "", 0⟩, ⟨ "Nts", 25, 1, false, "", "", 24⟩, ⟨ "Prods", 26, 2, false, "", "", 48⟩]) := by kernel_rfl
theorem ud3 : Try.prog.underlying 3 = some (.int .i64) := by kernel_rfl
theorem ud32 : Try.prog.underlying 32 = some (.slice 3) := by kernel_rfl
theorem ud34 : Try.prog.underlying 34 = some (.slice 90) := by kernel_rfl
theorem ud35 : Try.prog.underlying 35 = some (.slice 137) := by kernel_rfl
theorem ud37 : Try.prog.underlying 37 = some (.struct #[⟨ "Left", 3, 0, false, "", "", 0⟩, ⟨ "Right", 34, 1, false, "", "", 8⟩, ⟨ "Rules", 35, 2, false, "", "", 32⟩]) := by kernel_rfl
theorem ud39 : Try.prog.underlying 39 = some (.slice 52) := by kernel_rfl
theorem ud41 : Try.prog.underlying 41 = some (.struct #[⟨ "Nodes", 39, 0, false, "", "", 0⟩, ⟨ "Next", 3, 1, false, "", "", 24⟩]) := by kernel_rfl
theorem ud52 : Try.prog.underlying 52 = some (.struct #[⟨ "ID", 3, 0, false, "", "", 0⟩, ⟨ "Prod", 3, 1, false, "", "", 8⟩, ⟨ "Kind", 3, 2, false, "", "", 16⟩, ⟨ "Text", 9, 3, false, "", "", 24⟩, ⟨ "Kids", 32, 4, false, "", "", 40⟩]) := by kernel_rfl
theorem ud56 : Try.prog.underlying 56 = some (.slice 9) := by kernel_rfl
theorem ud58 : Try.prog.underlying 58 = some (.slice 60) := by kernel_rfl
theorem ud60 : Try.prog.underlying 60 = some (.array 2 3) := by kernel_rfl
theorem ud64 : Try.prog.underlying 64 = some (.slice 4) := by kernel_rfl
theorem ud65 : Try.prog.underlying 65 = some (.slice 64) := by kernel_rfl
theorem ud67 : Try.prog.underlying 67 = some (.struct #[⟨ "Null", 64, 0, false, "", "", 0⟩, ⟨ "First", 65, 1, false, "", "", 24⟩, ⟨ "Follow", 65, 2, false, "", "", 48⟩]) := by kernel_rfl
theorem ud76 : Try.prog.underlying 76 = some (.slice 86) := by kernel_rfl
theorem ud78 : Try.prog.underlying 78 = some (.slice 32) := by kernel_rfl
theorem ud79 : Try.prog.underlying 79 = some (.slice 93) := by kernel_rfl
theorem ud86 : Try.prog.underlying 86 = some (.struct #[⟨ "Kind", 3, 0, false, "", "", 0⟩, ⟨ "Text", 9, 1, false, "", "", 8⟩]) := by kernel_rfl
theorem ud9 : Try.prog.underlying 9 = some .string := by kernel_rfl
theorem ud90 : Try.prog.underlying 90 = some (.struct #[⟨ "Tok", 4, 0, false, "", "", 0⟩, ⟨ "At", 3, 1, false, "", "", 8⟩]) := by kernel_rfl
theorem ud93 : Try.prog.underlying 93 = some (.struct #[⟨ "Nt", 3, 0, false, "", "", 0⟩, ⟨ "Tok", 3, 1, false, "", "", 8⟩, ⟨ "A", 3, 2, false, "", "", 16⟩, ⟨ "B", 3, 3, false, "", "", 24⟩]) := by kernel_rfl
theorem ud97 : Try.prog.underlying 97 = some (.struct #[⟨ "l", 22, 0, false, "", "lemmata/lemmataplay", 0⟩, ⟨ "n", 3, 1, false, "", "lemmata/lemmataplay", 24⟩]) := by kernel_rfl
theorem ud99 : Try.prog.underlying 99 = some (.struct #[⟨ "Name", 9, 0, false, "", "", 0⟩, ⟨ "Rex", 9, 1, false, "", "", 16⟩, ⟨ "Skip", 4, 2, false, "", "", 32⟩]) := by kernel_rfl
theorem zc101 : tzeroCells Try.prog 101 = some [(Value.string ⟨#[]⟩), (Value.slice none 0 0), (Value.slice none 0 0)] := by kernel_rfl
theorem zc108 : tzeroCells Try.prog 108 = some [(Value.int .i64 0), (Value.int .i64 0), (Value.string ⟨#[]⟩)] := by kernel_rfl
theorem zc112 : tzeroCells Try.prog 112 = some [(Value.slice none 0 0), (Value.int .i64 0), (Value.slice none 0 0), (Value.slice none 0 0), (Value.slice none 0 0), (Value.slice none 0 0), (Value.slice none 0 0), (Value.slice none 0 0)] := by kernel_rfl
theorem zc118 : tzeroCells Try.prog 118 = some [(Value.slice none 0 0), (Value.int .i64 0), (Value.slice none 0 0), (Value.slice none 0 0), (Value.slice none 0 0), (Value.slice none 0 0), (Value.slice none 0 0), (Value.slice none 0 0), (Value.slice none 0 0), (Value.int .i64 0), (Value.slice none 0 0), (Value.slice none 0 0), (Value.slice none 0 0), (Value.slice none 0 0), (Value.slice none 0 0), (Value.slice none 0 0), (Value.map none), (Value.map none), (Value.map none), (Value.int .i64 0), (Value.int .i64 0), (Value.slice none 0 0), (Value.int .i64 0), (Value.map none)] := by kernel_rfl
theorem zc131 : tzeroCells Try.prog 131 = some [(Value.int .i64 0), (Value.int .i64 0), (Value.string ⟨#[]⟩), (Value.slice none 0 0)] := by kernel_rfl
theorem zc134 : tzeroCells Try.prog 134 = some [(Value.int .i64 0), (Value.int .i64 0), (Value.int .i64 0), (Value.string ⟨#[]⟩), (Value.slice none 0 0), (Value.int .i64 0), (Value.int .i64 0), (Value.slice none 0 0)] := by kernel_rfl
theorem zc137 : tzeroCells Try.prog 137 = some [(Value.int .i64 0), (Value.int .i64 0), (Value.int .i64 0), (Value.int .i64 0), (Value.int .i64 0), (Value.string ⟨#[]⟩), (Value.slice none 0 0), (Value.int .i64 0), (Value.int .i64 0), (Value.slice none 0 0)] := by kernel_rfl
theorem zc152 : tzeroCells Try.prog 152 = some [(Value.slice none 0 0), (Value.slice none 0 0), (Value.slice none 0 0), (Value.slice none 0 0), (Value.slice none 0 0), (Value.int .i64 0), (Value.slice none 0 0), (Value.int .i64 0), (Value.int .i64 0)] := by kernel_rfl
theorem zc178 : tzeroCells Try.prog 178 = some [(Value.bool false), (Value.int .i64 0), (Value.int .i64 0), (Value.int .i64 0), (Value.bool false)] := by kernel_rfl
theorem zc194 : tzeroCells Try.prog 194 = some [(Value.int .i64 0), (Value.int .i64 0), (Value.int .i64 0)] := by kernel_rfl
theorem zc209 : tzeroCells Try.prog 209 = some [(Value.string ⟨#[]⟩), (Value.int .i64 0), (Value.bool false)] := by kernel_rfl
theorem zc219 : tzeroCells Try.prog 219 = some [(Value.int .i64 0), (Value.slice none 0 0)] := by kernel_rfl
theorem zc221 : tzeroCells Try.prog 221 = some [(Value.int .u8 0), (Value.int .u8 0)] := by kernel_rfl
theorem zc28 : tzeroCells Try.prog 28 = some [(Value.slice none 0 0), (Value.slice none 0 0), (Value.slice none 0 0)] := by kernel_rfl
theorem zc32 : tzeroCells Try.prog 32 = some [(Value.slice none 0 0)] := by kernel_rfl
theorem zc37 : tzeroCells Try.prog 37 = some [(Value.int .i64 0), (Value.slice none 0 0), (Value.slice none 0 0)] := by kernel_rfl
theorem zc41 : tzeroCells Try.prog 41 = some [(Value.slice none 0 0), (Value.int .i64 0)] := by kernel_rfl
theorem zc52 : tzeroCells Try.prog 52 = some [(Value.int .i64 0), (Value.int .i64 0), (Value.int .i64 0), (Value.string ⟨#[]⟩), (Value.slice none 0 0)] := by kernel_rfl
theorem zc60 : tzeroCells Try.prog 60 = some [(Value.int .i64 0), (Value.int .i64 0)] := by kernel_rfl
theorem zc64 : tzeroCells Try.prog 64 = some [(Value.slice none 0 0)] := by kernel_rfl
theorem zc65 : tzeroCells Try.prog 65 = some [(Value.slice none 0 0)] := by kernel_rfl
theorem zc67 : tzeroCells Try.prog 67 = some [(Value.slice none 0 0), (Value.slice none 0 0), (Value.slice none 0 0)] := by kernel_rfl
theorem zc76 : tzeroCells Try.prog 76 = some [(Value.slice none 0 0)] := by kernel_rfl
theorem zc86 : tzeroCells Try.prog 86 = some [(Value.int .i64 0), (Value.string ⟨#[]⟩)] := by kernel_rfl
theorem zc90 : tzeroCells Try.prog 90 = some [(Value.bool false), (Value.int .i64 0)] := by kernel_rfl
theorem zc93 : tzeroCells Try.prog 93 = some [(Value.int .i64 0), (Value.int .i64 0), (Value.int .i64 0), (Value.int .i64 0)] := by kernel_rfl
theorem zc97 : tzeroCells Try.prog 97 = some [(Value.slice none 0 0), (Value.int .i64 0)] := by kernel_rfl
theorem zc99 : tzeroCells Try.prog 99 = some [(Value.string ⟨#[]⟩), (Value.string ⟨#[]⟩), (Value.bool false)] := by kernel_rfl
theorem zr101 : tzeroRow Try.prog 101 = some [(Value.string ⟨#[]⟩), (Value.slice none 0 0), (Value.slice none 0 0)] := by kernel_rfl
theorem zr134 : tzeroRow Try.prog 134 = some [(Value.int .i64 0), (Value.int .i64 0), (Value.int .i64 0), (Value.string ⟨#[]⟩), (Value.slice none 0 0), (Value.int .i64 0), (Value.int .i64 0), (Value.slice none 0 0)] := by kernel_rfl
theorem zr137 : tzeroRow Try.prog 137 = some [(Value.int .i64 0), (Value.int .i64 0), (Value.int .i64 0), (Value.int .i64 0), (Value.int .i64 0), (Value.string ⟨#[]⟩), (Value.slice none 0 0), (Value.int .i64 0), (Value.int .i64 0), (Value.slice none 0 0)] := by kernel_rfl
theorem zr190 : tzeroRow Try.prog 190 = some [(Value.slice none 0 0)] := by kernel_rfl
theorem zr194 : tzeroRow Try.prog 194 = some [(Value.int .i64 0), (Value.int .i64 0), (Value.int .i64 0)] := by kernel_rfl
theorem zr219 : tzeroRow Try.prog 219 = some [(Value.int .i64 0), (Value.slice none 0 0)] := by kernel_rfl
theorem zr221 : tzeroRow Try.prog 221 = some [(Value.int .u8 0), (Value.int .u8 0)] := by kernel_rfl
theorem zr28 : tzeroRow Try.prog 28 = some [(Value.slice none 0 0), (Value.slice none 0 0), (Value.slice none 0 0)] := by kernel_rfl
theorem zr3 : tzeroRow Try.prog 3 = some [(Value.int .i64 0)] := by kernel_rfl
theorem zr32 : tzeroRow Try.prog 32 = some [(Value.slice none 0 0)] := by kernel_rfl
theorem zr37 : tzeroRow Try.prog 37 = some [(Value.int .i64 0), (Value.slice none 0 0), (Value.slice none 0 0)] := by kernel_rfl
theorem zr4 : tzeroRow Try.prog 4 = some [(Value.bool false)] := by kernel_rfl
theorem zr5 : tzeroRow Try.prog 5 = some [(Value.int .u8 0)] := by kernel_rfl
theorem zr52 : tzeroRow Try.prog 52 = some [(Value.int .i64 0), (Value.int .i64 0), (Value.int .i64 0), (Value.string ⟨#[]⟩), (Value.slice none 0 0)] := by kernel_rfl
theorem zr56 : tzeroRow Try.prog 56 = some [(Value.slice none 0 0)] := by kernel_rfl
theorem zr60 : tzeroRow Try.prog 60 = some [(Value.int .i64 0), (Value.int .i64 0)] := by kernel_rfl
theorem zr64 : tzeroRow Try.prog 64 = some [(Value.slice none 0 0)] := by kernel_rfl
theorem zr86 : tzeroRow Try.prog 86 = some [(Value.int .i64 0), (Value.string ⟨#[]⟩)] := by kernel_rfl
theorem zr9 : tzeroRow Try.prog 9 = some [(Value.string ⟨#[]⟩)] := by kernel_rfl
theorem zr90 : tzeroRow Try.prog 90 = some [(Value.bool false), (Value.int .i64 0)] := by kernel_rfl
theorem zr93 : tzeroRow Try.prog 93 = some [(Value.int .i64 0), (Value.int .i64 0), (Value.int .i64 0), (Value.int .i64 0)] := by kernel_rfl
theorem zr99 : tzeroRow Try.prog 99 = some [(Value.string ⟨#[]⟩), (Value.string ⟨#[]⟩), (Value.bool false)] := by kernel_rfl
end Go.Det
end
