/- Laws, part 34. No condition. -/
import Derived.Test.YtbonllhdlmegeaaGreatDoorL13
import Derived.Test.YtbonllhdlmegeaaGreatDoorL14
import Derived.Test.YtbonllhdlmegeaaGreatDoorL15
import Derived.Test.YtbonllhdlmegeaaGreatDoorL16
import Derived.Test.YtbonllhdlmegeaaGreatDoorL17
import Derived.Test.YtbonllhdlmegeaaGreatDoorL18
import Derived.Test.YtbonllhdlmegeaaGreatDoorL19
import Derived.Test.YtbonllhdlmegeaaGreatDoorL20
import Derived.Test.YtbonllhdlmegeaaGreatDoorL21
import Derived.Test.YtbonllhdlmegeaaGreatDoorL23
import Derived.Test.YtbonllhdlmegeaaGreatDoorL24
import Derived.Test.YtbonllhdlmegeaaGreatDoorL25
import Derived.Test.YtbonllhdlmegeaaGreatDoorL26
import Derived.Test.YtbonllhdlmegeaaGreatDoorL27
import Derived.Test.YtbonllhdlmegeaaGreatDoorL28
import Derived.Test.YtbonllhdlmegeaaGreatDoorL29
import Derived.Test.YtbonllhdlmegeaaGreatDoorL30
import Derived.Test.YtbonllhdlmegeaaGreatDoorL31
set_option linter.all false
set_option maxRecDepth 100000
set_option maxHeartbeats 4000000
noncomputable section
set_option maxHeartbeats 4000000
namespace Go.Va
open Go.Proofs
theorem pLives (hP:Snp Tryz.prog GLx PrL) (hB:rB.ok Tryz.prog GLx):PSp Tryz.prog GLx 15 [] [.bool true]:=by
 have h0:=q0 hP hB;have h1:=q1 hP hB;have h2:=q2 hP hB h0 h1;have h3:=q3 hP hB h0 h1;have h4:=q4 hP hB h0 h1;have h5:=q5 hP hB h0 h1;have h6:=q6 hP hB h0 h1;have h7:=q7 hP hB h0 h1;have h8:=q8 hP hB h0 h1;have h9:=q9 hP hB h0 h1;have h10:=q10 hP hB h0 h1;have h11:=q11 hP hB h0 h1;have h12:=q12 hP hB h0 h1;have h13:=q13 hP hB h0 h1;have h14:=q14 hP hB h0 h1;have h15:=q15 hP hB h0 h1;have h16:=q16 hP hB h0 h1 h2;have h17:=q17 hP hB h0 h1 h2 h8;have h18:=q18 hP hB h0 h1 h9 h10 h11;have h19:=q19 hP hB h0 h1 h12 h13 h14;have h20:=q20 hP hB h0 h1 h2 h8 h14 h15;have h21:=q21 hP hB h0 h1 h8;have h22:=q22 hP hB h0 h1 h8;have h23:=q23 hP hB h0 h1 h2 h8;have h24:=q24 hP hB h0 h2 h3 h8 h9 h16 h17 h20;have h25:=q25 hP hB h0 h2 h3 h8 h16 h17;have h26:=q26 hP hB h0 h2 h3 h15 h17 h20 h24 h25;have h43:=q43 hP hB;have h44:=q44 hP hB;have h27:=q27 hP hB h0 h1 h2 h3 h4 h5 h6 h7 h8 h9 h10 h11 h12 h13 h14 h15 h16 h17 h18 h19 h20 h21 h22 h23 h24 h25 h43;have h28:=q28 hP hB h0 h1 h2 h3 h4 h5 h6 h7 h8 h9 h10 h11 h12 h13 h14 h15 h16 h17 h18 h19 h20 h21 h22 h23 h24 h25 h44;have h29:=q29 hP hB h0 h2 h17 h24 h26;have h30:=q30 hP hB h0 h2 h16 h24 h27 h28 h29;have h31:=q31 hP hB h16 h29;have h32:=q32 hP hB h16 h29;have h33:=q33 hP hB h16 h29;have h34:=q34 hP hB h16 h29;have h35:=q35 hP hB h0 h2 h16 h24 h29;have h36:=q36 hP hB h0 h2 h16 h24 h29 h30;have h37:=q37 hP hB h0 h2 h16 h24 h29 h30 h32;have h38:=q38 hP hB h0 h1 h2 h3 h15 h16 h17 h20 h24 h26 h29 h30 h31 h32;have h39:=q39 hP hB h0 h1 h2 h3 h15 h16 h17 h20 h24 h26 h29 h30 h32 h33 h34 h35;have h40:=q40 hP hB h0 h2 h16 h17 h24 h26 h29 h30 h31 h32 h35 h36 h38;have h41:=q41 hP hB h0 h2 h16 h17 h20 h23 h24 h26 h29 h30 h32 h33 h34 h35 h37 h39;have h42:=q42 hP hB h0 h2 h17 h24 h26 h40 h41;exact h42 (15,[([],[vt])]) (by simp[r42]) ([],[vt]) (by simp)
end Go.Va
