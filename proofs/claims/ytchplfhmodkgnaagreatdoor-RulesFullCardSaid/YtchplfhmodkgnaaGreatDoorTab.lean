/-
  Each entry of the tables of instructions does what the program's function does.
  No condition stands but those in each theorem's own words.
-/
import Derived.Test.YtchplfhmodkgnaaGreatDoorIx
import Derived.Test.YtchplfhmodkgnaaGreatDoorIs0
import Derived.Test.YtchplfhmodkgnaaGreatDoorIs1
import Derived.Test.YtchplfhmodkgnaaGreatDoorIs2
set_option maxRecDepth 1000000
namespace Go.Ev
open Go.Proofs
theorem dk11 : DefOk Tryz.prog ⟨.d0,.d0,.d1,.d3⟩ ir11 := dfun_ok (C := cx11) hfol ixok (f := ⟨.d0,.d0,.d1,.d3⟩) (fn := Tryz.f11) Tryz.func11 is11
theorem dk197 : DefOk Tryz.prog ⟨.d0,.d3,.d0,.d5⟩ ir197 := dfun_ok (C := cx197) hfol ixok (f := ⟨.d0,.d3,.d0,.d5⟩) (fn := Tryz.f197) Tryz.func197 is197
noncomputable def dtab : Tab := (N.mk (N.mk (N.mk z1 (N.mk .none .none .none (.some ir11) .none .none .none .none) z1 z1 z1 z1 z1 z1) z2 z2 (N.mk (N.mk .none .none .none .none .none (.some ir197) .none .none) z1 z1 z1 z1 z1 z1 z1) z2 z2 z2 z2) z3 z3 z3 z3 z3 z3 z3)
theorem dtab_at : ∀ a b c d, DLeaf Tryz.prog ⟨a, b, c, d⟩ (tget dtab ⟨a, b, c, d⟩) := (n8a (n8b (n8c dleaf1 (n8d dleaf_none dleaf_none dleaf_none (dleaf_some dk11) dleaf_none dleaf_none dleaf_none dleaf_none) dleaf1 dleaf1 dleaf1 dleaf1 dleaf1 dleaf1) dleaf2 dleaf2 (n8c (n8d dleaf_none dleaf_none dleaf_none dleaf_none dleaf_none (dleaf_some dk197) dleaf_none dleaf_none) dleaf1 dleaf1 dleaf1 dleaf1 dleaf1 dleaf1 dleaf1) dleaf2 dleaf2 dleaf2 dleaf2) dleaf3 dleaf3 dleaf3 dleaf3 dleaf3 dleaf3 dleaf3)
theorem dtab_ok : ∀ g A, tget dtab g = some A → DefOk Tryz.prog g A := fun g A h => by obtain ⟨a, b, c, d⟩ := g; exact dtab_at a b c d A h
theorem ok3 : AfOk Tryz.prog dtab ⟨.d0,.d0,.d0,.d3⟩ ir3 := fun_ok (C := cx3) hfol ixok dtab_ok (f := ⟨.d0,.d0,.d0,.d3⟩) (fn := Tryz.f3) Tryz.func3 is3
theorem ok4 : AfOk Tryz.prog dtab ⟨.d0,.d0,.d0,.d4⟩ ir4 := fun_ok (C := cx4) hfol ixok dtab_ok (f := ⟨.d0,.d0,.d0,.d4⟩) (fn := Tryz.f4) Tryz.func4 is4
theorem ok5 : AfOk Tryz.prog dtab ⟨.d0,.d0,.d0,.d5⟩ ir5 := fun_ok (C := cx5) hfol ixok dtab_ok (f := ⟨.d0,.d0,.d0,.d5⟩) (fn := Tryz.f5) Tryz.func5 is5
theorem ok6 : AfOk Tryz.prog dtab ⟨.d0,.d0,.d0,.d6⟩ ir6 := fun_ok (C := cx6) hfol ixok dtab_ok (f := ⟨.d0,.d0,.d0,.d6⟩) (fn := Tryz.f6) Tryz.func6 is6
theorem ok7 : AfOk Tryz.prog dtab ⟨.d0,.d0,.d0,.d7⟩ ir7 := fun_ok (C := cx7) hfol ixok dtab_ok (f := ⟨.d0,.d0,.d0,.d7⟩) (fn := Tryz.f7) Tryz.func7 is7
theorem ok8 : AfOk Tryz.prog dtab ⟨.d0,.d0,.d1,.d0⟩ ir8 := fun_ok (C := cx8) hfol ixok dtab_ok (f := ⟨.d0,.d0,.d1,.d0⟩) (fn := Tryz.f8) Tryz.func8 is8
theorem ok9 : AfOk Tryz.prog dtab ⟨.d0,.d0,.d1,.d1⟩ ir9 := fun_ok (C := cx9) hfol ixok dtab_ok (f := ⟨.d0,.d0,.d1,.d1⟩) (fn := Tryz.f9) Tryz.func9 is9
theorem ok10 : AfOk Tryz.prog dtab ⟨.d0,.d0,.d1,.d2⟩ ir10 := fun_ok (C := cx10) hfol ixok dtab_ok (f := ⟨.d0,.d0,.d1,.d2⟩) (fn := Tryz.f10) Tryz.func10 is10
theorem ok12 : AfOk Tryz.prog dtab ⟨.d0,.d0,.d1,.d4⟩ ir12 := fun_ok (C := cx12) hfol ixok dtab_ok (f := ⟨.d0,.d0,.d1,.d4⟩) (fn := Tryz.f12) Tryz.func12 is12
theorem ok13 : AfOk Tryz.prog dtab ⟨.d0,.d0,.d1,.d5⟩ ir13 := fun_ok (C := cx13) hfol ixok dtab_ok (f := ⟨.d0,.d0,.d1,.d5⟩) (fn := Tryz.f13) Tryz.func13 is13
theorem ok14 : AfOk Tryz.prog dtab ⟨.d0,.d0,.d1,.d6⟩ ir14 := fun_ok (C := cx14) hfol ixok dtab_ok (f := ⟨.d0,.d0,.d1,.d6⟩) (fn := Tryz.f14) Tryz.func14 is14
theorem ok15 : AfOk Tryz.prog dtab ⟨.d0,.d0,.d1,.d7⟩ ir15 := fun_ok (C := cx15) hfol ixok dtab_ok (f := ⟨.d0,.d0,.d1,.d7⟩) (fn := Tryz.f15) Tryz.func15 is15
theorem ok16 : AfOk Tryz.prog dtab ⟨.d0,.d0,.d2,.d0⟩ ir16 := fun_ok (C := cx16) hfol ixok dtab_ok (f := ⟨.d0,.d0,.d2,.d0⟩) (fn := Tryz.f16) Tryz.func16 is16
theorem ok17 : AfOk Tryz.prog dtab ⟨.d0,.d0,.d2,.d1⟩ ir17 := fun_ok (C := cx17) hfol ixok dtab_ok (f := ⟨.d0,.d0,.d2,.d1⟩) (fn := Tryz.f17) Tryz.func17 is17
theorem ok18 : AfOk Tryz.prog dtab ⟨.d0,.d0,.d2,.d2⟩ ir18 := fun_ok (C := cx18) hfol ixok dtab_ok (f := ⟨.d0,.d0,.d2,.d2⟩) (fn := Tryz.f18) Tryz.func18 is18
theorem ok19 : AfOk Tryz.prog dtab ⟨.d0,.d0,.d2,.d3⟩ ir19 := fun_ok (C := cx19) hfol ixok dtab_ok (f := ⟨.d0,.d0,.d2,.d3⟩) (fn := Tryz.f19) Tryz.func19 is19
theorem ok20 : AfOk Tryz.prog dtab ⟨.d0,.d0,.d2,.d4⟩ ir20 := fun_ok (C := cx20) hfol ixok dtab_ok (f := ⟨.d0,.d0,.d2,.d4⟩) (fn := Tryz.f20) Tryz.func20 is20
theorem ok21 : AfOk Tryz.prog dtab ⟨.d0,.d0,.d2,.d5⟩ ir21 := fun_ok (C := cx21) hfol ixok dtab_ok (f := ⟨.d0,.d0,.d2,.d5⟩) (fn := Tryz.f21) Tryz.func21 is21
theorem ok22 : AfOk Tryz.prog dtab ⟨.d0,.d0,.d2,.d6⟩ ir22 := fun_ok (C := cx22) hfol ixok dtab_ok (f := ⟨.d0,.d0,.d2,.d6⟩) (fn := Tryz.f22) Tryz.func22 is22
theorem ok23 : AfOk Tryz.prog dtab ⟨.d0,.d0,.d2,.d7⟩ ir23 := fun_ok (C := cx23) hfol ixok dtab_ok (f := ⟨.d0,.d0,.d2,.d7⟩) (fn := Tryz.f23) Tryz.func23 is23
theorem ok24 : AfOk Tryz.prog dtab ⟨.d0,.d0,.d3,.d0⟩ ir24 := fun_ok (C := cx24) hfol ixok dtab_ok (f := ⟨.d0,.d0,.d3,.d0⟩) (fn := Tryz.f24) Tryz.func24 is24
theorem ok25 : AfOk Tryz.prog dtab ⟨.d0,.d0,.d3,.d1⟩ ir25 := fun_ok (C := cx25) hfol ixok dtab_ok (f := ⟨.d0,.d0,.d3,.d1⟩) (fn := Tryz.f25) Tryz.func25 is25
theorem ok27 : AfOk Tryz.prog dtab ⟨.d0,.d0,.d3,.d3⟩ ir27 := fun_ok (C := cx27) hfol ixok dtab_ok (f := ⟨.d0,.d0,.d3,.d3⟩) (fn := Tryz.f27) Tryz.func27 is27
theorem ok28 : AfOk Tryz.prog dtab ⟨.d0,.d0,.d3,.d4⟩ ir28 := fun_ok (C := cx28) hfol ixok dtab_ok (f := ⟨.d0,.d0,.d3,.d4⟩) (fn := Tryz.f28) Tryz.func28 is28
theorem ok29 : AfOk Tryz.prog dtab ⟨.d0,.d0,.d3,.d5⟩ ir29 := fun_ok (C := cx29) hfol ixok dtab_ok (f := ⟨.d0,.d0,.d3,.d5⟩) (fn := Tryz.f29) Tryz.func29 is29
theorem ok30 : AfOk Tryz.prog dtab ⟨.d0,.d0,.d3,.d6⟩ ir30 := fun_ok (C := cx30) hfol ixok dtab_ok (f := ⟨.d0,.d0,.d3,.d6⟩) (fn := Tryz.f30) Tryz.func30 is30
theorem ok31 : AfOk Tryz.prog dtab ⟨.d0,.d0,.d3,.d7⟩ ir31 := fun_ok (C := cx31) hfol ixok dtab_ok (f := ⟨.d0,.d0,.d3,.d7⟩) (fn := Tryz.f31) Tryz.func31 is31
theorem ok32 : AfOk Tryz.prog dtab ⟨.d0,.d0,.d4,.d0⟩ ir32 := fun_ok (C := cx32) hfol ixok dtab_ok (f := ⟨.d0,.d0,.d4,.d0⟩) (fn := Tryz.f32) Tryz.func32 is32
theorem ok33 : AfOk Tryz.prog dtab ⟨.d0,.d0,.d4,.d1⟩ ir33 := fun_ok (C := cx33) hfol ixok dtab_ok (f := ⟨.d0,.d0,.d4,.d1⟩) (fn := Tryz.f33) Tryz.func33 is33
theorem ok35 : AfOk Tryz.prog dtab ⟨.d0,.d0,.d4,.d3⟩ ir35 := fun_ok (C := cx35) hfol ixok dtab_ok (f := ⟨.d0,.d0,.d4,.d3⟩) (fn := Tryz.f35) Tryz.func35 is35
theorem ok36 : AfOk Tryz.prog dtab ⟨.d0,.d0,.d4,.d4⟩ ir36 := fun_ok (C := cx36) hfol ixok dtab_ok (f := ⟨.d0,.d0,.d4,.d4⟩) (fn := Tryz.f36) Tryz.func36 is36
theorem ok37 : AfOk Tryz.prog dtab ⟨.d0,.d0,.d4,.d5⟩ ir37 := fun_ok (C := cx37) hfol ixok dtab_ok (f := ⟨.d0,.d0,.d4,.d5⟩) (fn := Tryz.f37) Tryz.func37 is37
theorem ok41 : AfOk Tryz.prog dtab ⟨.d0,.d0,.d5,.d1⟩ ir41 := fun_ok (C := cx41) hfol ixok dtab_ok (f := ⟨.d0,.d0,.d5,.d1⟩) (fn := Tryz.f41) Tryz.func41 is41
theorem ok43 : AfOk Tryz.prog dtab ⟨.d0,.d0,.d5,.d3⟩ ir43 := fun_ok (C := cx43) hfol ixok dtab_ok (f := ⟨.d0,.d0,.d5,.d3⟩) (fn := Tryz.f43) Tryz.func43 is43
theorem ok44 : AfOk Tryz.prog dtab ⟨.d0,.d0,.d5,.d4⟩ ir44 := fun_ok (C := cx44) hfol ixok dtab_ok (f := ⟨.d0,.d0,.d5,.d4⟩) (fn := Tryz.f44) Tryz.func44 is44
theorem ok45 : AfOk Tryz.prog dtab ⟨.d0,.d0,.d5,.d5⟩ ir45 := fun_ok (C := cx45) hfol ixok dtab_ok (f := ⟨.d0,.d0,.d5,.d5⟩) (fn := Tryz.f45) Tryz.func45 is45
theorem ok46 : AfOk Tryz.prog dtab ⟨.d0,.d0,.d5,.d6⟩ ir46 := fun_ok (C := cx46) hfol ixok dtab_ok (f := ⟨.d0,.d0,.d5,.d6⟩) (fn := Tryz.f46) Tryz.func46 is46
theorem ok47 : AfOk Tryz.prog dtab ⟨.d0,.d0,.d5,.d7⟩ ir47 := fun_ok (C := cx47) hfol ixok dtab_ok (f := ⟨.d0,.d0,.d5,.d7⟩) (fn := Tryz.f47) Tryz.func47 is47
theorem ok48 : AfOk Tryz.prog dtab ⟨.d0,.d0,.d6,.d0⟩ ir48 := fun_ok (C := cx48) hfol ixok dtab_ok (f := ⟨.d0,.d0,.d6,.d0⟩) (fn := Tryz.f48) Tryz.func48 is48
theorem ok49 : AfOk Tryz.prog dtab ⟨.d0,.d0,.d6,.d1⟩ ir49 := fun_ok (C := cx49) hfol ixok dtab_ok (f := ⟨.d0,.d0,.d6,.d1⟩) (fn := Tryz.f49) Tryz.func49 is49
theorem ok50 : AfOk Tryz.prog dtab ⟨.d0,.d0,.d6,.d2⟩ ir50 := fun_ok (C := cx50) hfol ixok dtab_ok (f := ⟨.d0,.d0,.d6,.d2⟩) (fn := Tryz.f50) Tryz.func50 is50
theorem ok51 : AfOk Tryz.prog dtab ⟨.d0,.d0,.d6,.d3⟩ ir51 := fun_ok (C := cx51) hfol ixok dtab_ok (f := ⟨.d0,.d0,.d6,.d3⟩) (fn := Tryz.f51) Tryz.func51 is51
theorem ok52 : AfOk Tryz.prog dtab ⟨.d0,.d0,.d6,.d4⟩ ir52 := fun_ok (C := cx52) hfol ixok dtab_ok (f := ⟨.d0,.d0,.d6,.d4⟩) (fn := Tryz.f52) Tryz.func52 is52
theorem ok53 : AfOk Tryz.prog dtab ⟨.d0,.d0,.d6,.d5⟩ ir53 := fun_ok (C := cx53) hfol ixok dtab_ok (f := ⟨.d0,.d0,.d6,.d5⟩) (fn := Tryz.f53) Tryz.func53 is53
theorem ok54 : AfOk Tryz.prog dtab ⟨.d0,.d0,.d6,.d6⟩ ir54 := fun_ok (C := cx54) hfol ixok dtab_ok (f := ⟨.d0,.d0,.d6,.d6⟩) (fn := Tryz.f54) Tryz.func54 is54
theorem ok55 : AfOk Tryz.prog dtab ⟨.d0,.d0,.d6,.d7⟩ ir55 := fun_ok (C := cx55) hfol ixok dtab_ok (f := ⟨.d0,.d0,.d6,.d7⟩) (fn := Tryz.f55) Tryz.func55 is55
theorem ok56 : AfOk Tryz.prog dtab ⟨.d0,.d0,.d7,.d0⟩ ir56 := fun_ok (C := cx56) hfol ixok dtab_ok (f := ⟨.d0,.d0,.d7,.d0⟩) (fn := Tryz.f56) Tryz.func56 is56
theorem ok57 : AfOk Tryz.prog dtab ⟨.d0,.d0,.d7,.d1⟩ ir57 := fun_ok (C := cx57) hfol ixok dtab_ok (f := ⟨.d0,.d0,.d7,.d1⟩) (fn := Tryz.f57) Tryz.func57 is57
theorem ok58 : AfOk Tryz.prog dtab ⟨.d0,.d0,.d7,.d2⟩ ir58 := fun_ok (C := cx58) hfol ixok dtab_ok (f := ⟨.d0,.d0,.d7,.d2⟩) (fn := Tryz.f58) Tryz.func58 is58
theorem ok61 : AfOk Tryz.prog dtab ⟨.d0,.d0,.d7,.d5⟩ ir61 := fun_ok (C := cx61) hfol ixok dtab_ok (f := ⟨.d0,.d0,.d7,.d5⟩) (fn := Tryz.f61) Tryz.func61 is61
theorem ok65 : AfOk Tryz.prog dtab ⟨.d0,.d1,.d0,.d1⟩ ir65 := fun_ok (C := cx65) hfol ixok dtab_ok (f := ⟨.d0,.d1,.d0,.d1⟩) (fn := Tryz.f65) Tryz.func65 is65
theorem ok66 : AfOk Tryz.prog dtab ⟨.d0,.d1,.d0,.d2⟩ ir66 := fun_ok (C := cx66) hfol ixok dtab_ok (f := ⟨.d0,.d1,.d0,.d2⟩) (fn := Tryz.f66) Tryz.func66 is66
theorem ok67 : AfOk Tryz.prog dtab ⟨.d0,.d1,.d0,.d3⟩ ir67 := fun_ok (C := cx67) hfol ixok dtab_ok (f := ⟨.d0,.d1,.d0,.d3⟩) (fn := Tryz.f67) Tryz.func67 is67
theorem ok68 : AfOk Tryz.prog dtab ⟨.d0,.d1,.d0,.d4⟩ ir68 := fun_ok (C := cx68) hfol ixok dtab_ok (f := ⟨.d0,.d1,.d0,.d4⟩) (fn := Tryz.f68) Tryz.func68 is68
theorem ok69 : AfOk Tryz.prog dtab ⟨.d0,.d1,.d0,.d5⟩ ir69 := fun_ok (C := cx69) hfol ixok dtab_ok (f := ⟨.d0,.d1,.d0,.d5⟩) (fn := Tryz.f69) Tryz.func69 is69
theorem ok74 : AfOk Tryz.prog dtab ⟨.d0,.d1,.d1,.d2⟩ ir74 := fun_ok (C := cx74) hfol ixok dtab_ok (f := ⟨.d0,.d1,.d1,.d2⟩) (fn := Tryz.f74) Tryz.func74 is74
theorem ok75 : AfOk Tryz.prog dtab ⟨.d0,.d1,.d1,.d3⟩ ir75 := fun_ok (C := cx75) hfol ixok dtab_ok (f := ⟨.d0,.d1,.d1,.d3⟩) (fn := Tryz.f75) Tryz.func75 is75
theorem ok76 : AfOk Tryz.prog dtab ⟨.d0,.d1,.d1,.d4⟩ ir76 := fun_ok (C := cx76) hfol ixok dtab_ok (f := ⟨.d0,.d1,.d1,.d4⟩) (fn := Tryz.f76) Tryz.func76 is76
theorem ok77 : AfOk Tryz.prog dtab ⟨.d0,.d1,.d1,.d5⟩ ir77 := fun_ok (C := cx77) hfol ixok dtab_ok (f := ⟨.d0,.d1,.d1,.d5⟩) (fn := Tryz.f77) Tryz.func77 is77
theorem ok78 : AfOk Tryz.prog dtab ⟨.d0,.d1,.d1,.d6⟩ ir78 := fun_ok (C := cx78) hfol ixok dtab_ok (f := ⟨.d0,.d1,.d1,.d6⟩) (fn := Tryz.f78) Tryz.func78 is78
theorem ok79 : AfOk Tryz.prog dtab ⟨.d0,.d1,.d1,.d7⟩ ir79 := fun_ok (C := cx79) hfol ixok dtab_ok (f := ⟨.d0,.d1,.d1,.d7⟩) (fn := Tryz.f79) Tryz.func79 is79
theorem ok80 : AfOk Tryz.prog dtab ⟨.d0,.d1,.d2,.d0⟩ ir80 := fun_ok (C := cx80) hfol ixok dtab_ok (f := ⟨.d0,.d1,.d2,.d0⟩) (fn := Tryz.f80) Tryz.func80 is80
theorem ok84 : AfOk Tryz.prog dtab ⟨.d0,.d1,.d2,.d4⟩ ir84 := fun_ok (C := cx84) hfol ixok dtab_ok (f := ⟨.d0,.d1,.d2,.d4⟩) (fn := Tryz.f84) Tryz.func84 is84
theorem ok86 : AfOk Tryz.prog dtab ⟨.d0,.d1,.d2,.d6⟩ ir86 := fun_ok (C := cx86) hfol ixok dtab_ok (f := ⟨.d0,.d1,.d2,.d6⟩) (fn := Tryz.f86) Tryz.func86 is86
theorem ok87 : AfOk Tryz.prog dtab ⟨.d0,.d1,.d2,.d7⟩ ir87 := fun_ok (C := cx87) hfol ixok dtab_ok (f := ⟨.d0,.d1,.d2,.d7⟩) (fn := Tryz.f87) Tryz.func87 is87
theorem ok88 : AfOk Tryz.prog dtab ⟨.d0,.d1,.d3,.d0⟩ ir88 := fun_ok (C := cx88) hfol ixok dtab_ok (f := ⟨.d0,.d1,.d3,.d0⟩) (fn := Tryz.f88) Tryz.func88 is88
theorem ok89 : AfOk Tryz.prog dtab ⟨.d0,.d1,.d3,.d1⟩ ir89 := fun_ok (C := cx89) hfol ixok dtab_ok (f := ⟨.d0,.d1,.d3,.d1⟩) (fn := Tryz.f89) Tryz.func89 is89
theorem ok92 : AfOk Tryz.prog dtab ⟨.d0,.d1,.d3,.d4⟩ ir92 := fun_ok (C := cx92) hfol ixok dtab_ok (f := ⟨.d0,.d1,.d3,.d4⟩) (fn := Tryz.f92) Tryz.func92 is92
theorem ok93 : AfOk Tryz.prog dtab ⟨.d0,.d1,.d3,.d5⟩ ir93 := fun_ok (C := cx93) hfol ixok dtab_ok (f := ⟨.d0,.d1,.d3,.d5⟩) (fn := Tryz.f93) Tryz.func93 is93
theorem ok94 : AfOk Tryz.prog dtab ⟨.d0,.d1,.d3,.d6⟩ ir94 := fun_ok (C := cx94) hfol ixok dtab_ok (f := ⟨.d0,.d1,.d3,.d6⟩) (fn := Tryz.f94) Tryz.func94 is94
theorem ok95 : AfOk Tryz.prog dtab ⟨.d0,.d1,.d3,.d7⟩ ir95 := fun_ok (C := cx95) hfol ixok dtab_ok (f := ⟨.d0,.d1,.d3,.d7⟩) (fn := Tryz.f95) Tryz.func95 is95
theorem ok96 : AfOk Tryz.prog dtab ⟨.d0,.d1,.d4,.d0⟩ ir96 := fun_ok (C := cx96) hfol ixok dtab_ok (f := ⟨.d0,.d1,.d4,.d0⟩) (fn := Tryz.f96) Tryz.func96 is96
theorem ok97 : AfOk Tryz.prog dtab ⟨.d0,.d1,.d4,.d1⟩ ir97 := fun_ok (C := cx97) hfol ixok dtab_ok (f := ⟨.d0,.d1,.d4,.d1⟩) (fn := Tryz.f97) Tryz.func97 is97
theorem ok98 : AfOk Tryz.prog dtab ⟨.d0,.d1,.d4,.d2⟩ ir98 := fun_ok (C := cx98) hfol ixok dtab_ok (f := ⟨.d0,.d1,.d4,.d2⟩) (fn := Tryz.f98) Tryz.func98 is98
theorem ok99 : AfOk Tryz.prog dtab ⟨.d0,.d1,.d4,.d3⟩ ir99 := fun_ok (C := cx99) hfol ixok dtab_ok (f := ⟨.d0,.d1,.d4,.d3⟩) (fn := Tryz.f99) Tryz.func99 is99
theorem ok100 : AfOk Tryz.prog dtab ⟨.d0,.d1,.d4,.d4⟩ ir100 := fun_ok (C := cx100) hfol ixok dtab_ok (f := ⟨.d0,.d1,.d4,.d4⟩) (fn := Tryz.f100) Tryz.func100 is100
theorem ok101 : AfOk Tryz.prog dtab ⟨.d0,.d1,.d4,.d5⟩ ir101 := fun_ok (C := cx101) hfol ixok dtab_ok (f := ⟨.d0,.d1,.d4,.d5⟩) (fn := Tryz.f101) Tryz.func101 is101
theorem ok102 : AfOk Tryz.prog dtab ⟨.d0,.d1,.d4,.d6⟩ ir102 := fun_ok (C := cx102) hfol ixok dtab_ok (f := ⟨.d0,.d1,.d4,.d6⟩) (fn := Tryz.f102) Tryz.func102 is102
theorem ok103 : AfOk Tryz.prog dtab ⟨.d0,.d1,.d4,.d7⟩ ir103 := fun_ok (C := cx103) hfol ixok dtab_ok (f := ⟨.d0,.d1,.d4,.d7⟩) (fn := Tryz.f103) Tryz.func103 is103
theorem ok104 : AfOk Tryz.prog dtab ⟨.d0,.d1,.d5,.d0⟩ ir104 := fun_ok (C := cx104) hfol ixok dtab_ok (f := ⟨.d0,.d1,.d5,.d0⟩) (fn := Tryz.f104) Tryz.func104 is104
theorem ok105 : AfOk Tryz.prog dtab ⟨.d0,.d1,.d5,.d1⟩ ir105 := fun_ok (C := cx105) hfol ixok dtab_ok (f := ⟨.d0,.d1,.d5,.d1⟩) (fn := Tryz.f105) Tryz.func105 is105
theorem ok106 : AfOk Tryz.prog dtab ⟨.d0,.d1,.d5,.d2⟩ ir106 := fun_ok (C := cx106) hfol ixok dtab_ok (f := ⟨.d0,.d1,.d5,.d2⟩) (fn := Tryz.f106) Tryz.func106 is106
theorem ok107 : AfOk Tryz.prog dtab ⟨.d0,.d1,.d5,.d3⟩ ir107 := fun_ok (C := cx107) hfol ixok dtab_ok (f := ⟨.d0,.d1,.d5,.d3⟩) (fn := Tryz.f107) Tryz.func107 is107
theorem ok108 : AfOk Tryz.prog dtab ⟨.d0,.d1,.d5,.d4⟩ ir108 := fun_ok (C := cx108) hfol ixok dtab_ok (f := ⟨.d0,.d1,.d5,.d4⟩) (fn := Tryz.f108) Tryz.func108 is108
theorem ok110 : AfOk Tryz.prog dtab ⟨.d0,.d1,.d5,.d6⟩ ir110 := fun_ok (C := cx110) hfol ixok dtab_ok (f := ⟨.d0,.d1,.d5,.d6⟩) (fn := Tryz.f110) Tryz.func110 is110
theorem ok111 : AfOk Tryz.prog dtab ⟨.d0,.d1,.d5,.d7⟩ ir111 := fun_ok (C := cx111) hfol ixok dtab_ok (f := ⟨.d0,.d1,.d5,.d7⟩) (fn := Tryz.f111) Tryz.func111 is111
theorem ok112 : AfOk Tryz.prog dtab ⟨.d0,.d1,.d6,.d0⟩ ir112 := fun_ok (C := cx112) hfol ixok dtab_ok (f := ⟨.d0,.d1,.d6,.d0⟩) (fn := Tryz.f112) Tryz.func112 is112
theorem ok113 : AfOk Tryz.prog dtab ⟨.d0,.d1,.d6,.d1⟩ ir113 := fun_ok (C := cx113) hfol ixok dtab_ok (f := ⟨.d0,.d1,.d6,.d1⟩) (fn := Tryz.f113) Tryz.func113 is113
theorem ok118 : AfOk Tryz.prog dtab ⟨.d0,.d1,.d6,.d6⟩ ir118 := fun_ok (C := cx118) hfol ixok dtab_ok (f := ⟨.d0,.d1,.d6,.d6⟩) (fn := Tryz.f118) Tryz.func118 is118
theorem ok119 : AfOk Tryz.prog dtab ⟨.d0,.d1,.d6,.d7⟩ ir119 := fun_ok (C := cx119) hfol ixok dtab_ok (f := ⟨.d0,.d1,.d6,.d7⟩) (fn := Tryz.f119) Tryz.func119 is119
theorem ok124 : AfOk Tryz.prog dtab ⟨.d0,.d1,.d7,.d4⟩ ir124 := fun_ok (C := cx124) hfol ixok dtab_ok (f := ⟨.d0,.d1,.d7,.d4⟩) (fn := Tryz.f124) Tryz.func124 is124
theorem ok125 : AfOk Tryz.prog dtab ⟨.d0,.d1,.d7,.d5⟩ ir125 := fun_ok (C := cx125) hfol ixok dtab_ok (f := ⟨.d0,.d1,.d7,.d5⟩) (fn := Tryz.f125) Tryz.func125 is125
theorem ok126 : AfOk Tryz.prog dtab ⟨.d0,.d1,.d7,.d6⟩ ir126 := fun_ok (C := cx126) hfol ixok dtab_ok (f := ⟨.d0,.d1,.d7,.d6⟩) (fn := Tryz.f126) Tryz.func126 is126
theorem ok127 : AfOk Tryz.prog dtab ⟨.d0,.d1,.d7,.d7⟩ ir127 := fun_ok (C := cx127) hfol ixok dtab_ok (f := ⟨.d0,.d1,.d7,.d7⟩) (fn := Tryz.f127) Tryz.func127 is127
theorem ok128 : AfOk Tryz.prog dtab ⟨.d0,.d2,.d0,.d0⟩ ir128 := fun_ok (C := cx128) hfol ixok dtab_ok (f := ⟨.d0,.d2,.d0,.d0⟩) (fn := Tryz.f128) Tryz.func128 is128
theorem ok129 : AfOk Tryz.prog dtab ⟨.d0,.d2,.d0,.d1⟩ ir129 := fun_ok (C := cx129) hfol ixok dtab_ok (f := ⟨.d0,.d2,.d0,.d1⟩) (fn := Tryz.f129) Tryz.func129 is129
theorem ok130 : AfOk Tryz.prog dtab ⟨.d0,.d2,.d0,.d2⟩ ir130 := fun_ok (C := cx130) hfol ixok dtab_ok (f := ⟨.d0,.d2,.d0,.d2⟩) (fn := Tryz.f130) Tryz.func130 is130
theorem ok131 : AfOk Tryz.prog dtab ⟨.d0,.d2,.d0,.d3⟩ ir131 := fun_ok (C := cx131) hfol ixok dtab_ok (f := ⟨.d0,.d2,.d0,.d3⟩) (fn := Tryz.f131) Tryz.func131 is131
theorem ok132 : AfOk Tryz.prog dtab ⟨.d0,.d2,.d0,.d4⟩ ir132 := fun_ok (C := cx132) hfol ixok dtab_ok (f := ⟨.d0,.d2,.d0,.d4⟩) (fn := Tryz.f132) Tryz.func132 is132
theorem ok133 : AfOk Tryz.prog dtab ⟨.d0,.d2,.d0,.d5⟩ ir133 := fun_ok (C := cx133) hfol ixok dtab_ok (f := ⟨.d0,.d2,.d0,.d5⟩) (fn := Tryz.f133) Tryz.func133 is133
theorem ok134 : AfOk Tryz.prog dtab ⟨.d0,.d2,.d0,.d6⟩ ir134 := fun_ok (C := cx134) hfol ixok dtab_ok (f := ⟨.d0,.d2,.d0,.d6⟩) (fn := Tryz.f134) Tryz.func134 is134
theorem ok135 : AfOk Tryz.prog dtab ⟨.d0,.d2,.d0,.d7⟩ ir135 := fun_ok (C := cx135) hfol ixok dtab_ok (f := ⟨.d0,.d2,.d0,.d7⟩) (fn := Tryz.f135) Tryz.func135 is135
theorem ok136 : AfOk Tryz.prog dtab ⟨.d0,.d2,.d1,.d0⟩ ir136 := fun_ok (C := cx136) hfol ixok dtab_ok (f := ⟨.d0,.d2,.d1,.d0⟩) (fn := Tryz.f136) Tryz.func136 is136
theorem ok137 : AfOk Tryz.prog dtab ⟨.d0,.d2,.d1,.d1⟩ ir137 := fun_ok (C := cx137) hfol ixok dtab_ok (f := ⟨.d0,.d2,.d1,.d1⟩) (fn := Tryz.f137) Tryz.func137 is137
theorem ok138 : AfOk Tryz.prog dtab ⟨.d0,.d2,.d1,.d2⟩ ir138 := fun_ok (C := cx138) hfol ixok dtab_ok (f := ⟨.d0,.d2,.d1,.d2⟩) (fn := Tryz.f138) Tryz.func138 is138
theorem ok139 : AfOk Tryz.prog dtab ⟨.d0,.d2,.d1,.d3⟩ ir139 := fun_ok (C := cx139) hfol ixok dtab_ok (f := ⟨.d0,.d2,.d1,.d3⟩) (fn := Tryz.f139) Tryz.func139 is139
theorem ok141 : AfOk Tryz.prog dtab ⟨.d0,.d2,.d1,.d5⟩ ir141 := fun_ok (C := cx141) hfol ixok dtab_ok (f := ⟨.d0,.d2,.d1,.d5⟩) (fn := Tryz.f141) Tryz.func141 is141
theorem ok142 : AfOk Tryz.prog dtab ⟨.d0,.d2,.d1,.d6⟩ ir142 := fun_ok (C := cx142) hfol ixok dtab_ok (f := ⟨.d0,.d2,.d1,.d6⟩) (fn := Tryz.f142) Tryz.func142 is142
theorem ok144 : AfOk Tryz.prog dtab ⟨.d0,.d2,.d2,.d0⟩ ir144 := fun_ok (C := cx144) hfol ixok dtab_ok (f := ⟨.d0,.d2,.d2,.d0⟩) (fn := Tryz.f144) Tryz.func144 is144
theorem ok145 : AfOk Tryz.prog dtab ⟨.d0,.d2,.d2,.d1⟩ ir145 := fun_ok (C := cx145) hfol ixok dtab_ok (f := ⟨.d0,.d2,.d2,.d1⟩) (fn := Tryz.f145) Tryz.func145 is145
theorem ok146 : AfOk Tryz.prog dtab ⟨.d0,.d2,.d2,.d2⟩ ir146 := fun_ok (C := cx146) hfol ixok dtab_ok (f := ⟨.d0,.d2,.d2,.d2⟩) (fn := Tryz.f146) Tryz.func146 is146
theorem ok147 : AfOk Tryz.prog dtab ⟨.d0,.d2,.d2,.d3⟩ ir147 := fun_ok (C := cx147) hfol ixok dtab_ok (f := ⟨.d0,.d2,.d2,.d3⟩) (fn := Tryz.f147) Tryz.func147 is147
theorem ok152 : AfOk Tryz.prog dtab ⟨.d0,.d2,.d3,.d0⟩ ir152 := fun_ok (C := cx152) hfol ixok dtab_ok (f := ⟨.d0,.d2,.d3,.d0⟩) (fn := Tryz.f152) Tryz.func152 is152
theorem ok161 : AfOk Tryz.prog dtab ⟨.d0,.d2,.d4,.d1⟩ ir161 := fun_ok (C := cx161) hfol ixok dtab_ok (f := ⟨.d0,.d2,.d4,.d1⟩) (fn := Tryz.f161) Tryz.func161 is161
theorem ok162 : AfOk Tryz.prog dtab ⟨.d0,.d2,.d4,.d2⟩ ir162 := fun_ok (C := cx162) hfol ixok dtab_ok (f := ⟨.d0,.d2,.d4,.d2⟩) (fn := Tryz.f162) Tryz.func162 is162
theorem ok163 : AfOk Tryz.prog dtab ⟨.d0,.d2,.d4,.d3⟩ ir163 := fun_ok (C := cx163) hfol ixok dtab_ok (f := ⟨.d0,.d2,.d4,.d3⟩) (fn := Tryz.f163) Tryz.func163 is163
theorem ok164 : AfOk Tryz.prog dtab ⟨.d0,.d2,.d4,.d4⟩ ir164 := fun_ok (C := cx164) hfol ixok dtab_ok (f := ⟨.d0,.d2,.d4,.d4⟩) (fn := Tryz.f164) Tryz.func164 is164
theorem ok165 : AfOk Tryz.prog dtab ⟨.d0,.d2,.d4,.d5⟩ ir165 := fun_ok (C := cx165) hfol ixok dtab_ok (f := ⟨.d0,.d2,.d4,.d5⟩) (fn := Tryz.f165) Tryz.func165 is165
theorem ok166 : AfOk Tryz.prog dtab ⟨.d0,.d2,.d4,.d6⟩ ir166 := fun_ok (C := cx166) hfol ixok dtab_ok (f := ⟨.d0,.d2,.d4,.d6⟩) (fn := Tryz.f166) Tryz.func166 is166
theorem ok167 : AfOk Tryz.prog dtab ⟨.d0,.d2,.d4,.d7⟩ ir167 := fun_ok (C := cx167) hfol ixok dtab_ok (f := ⟨.d0,.d2,.d4,.d7⟩) (fn := Tryz.f167) Tryz.func167 is167
theorem ok168 : AfOk Tryz.prog dtab ⟨.d0,.d2,.d5,.d0⟩ ir168 := fun_ok (C := cx168) hfol ixok dtab_ok (f := ⟨.d0,.d2,.d5,.d0⟩) (fn := Tryz.f168) Tryz.func168 is168
theorem ok169 : AfOk Tryz.prog dtab ⟨.d0,.d2,.d5,.d1⟩ ir169 := fun_ok (C := cx169) hfol ixok dtab_ok (f := ⟨.d0,.d2,.d5,.d1⟩) (fn := Tryz.f169) Tryz.func169 is169
theorem ok170 : AfOk Tryz.prog dtab ⟨.d0,.d2,.d5,.d2⟩ ir170 := fun_ok (C := cx170) hfol ixok dtab_ok (f := ⟨.d0,.d2,.d5,.d2⟩) (fn := Tryz.f170) Tryz.func170 is170
theorem ok171 : AfOk Tryz.prog dtab ⟨.d0,.d2,.d5,.d3⟩ ir171 := fun_ok (C := cx171) hfol ixok dtab_ok (f := ⟨.d0,.d2,.d5,.d3⟩) (fn := Tryz.f171) Tryz.func171 is171
theorem ok172 : AfOk Tryz.prog dtab ⟨.d0,.d2,.d5,.d4⟩ ir172 := fun_ok (C := cx172) hfol ixok dtab_ok (f := ⟨.d0,.d2,.d5,.d4⟩) (fn := Tryz.f172) Tryz.func172 is172
theorem ok174 : AfOk Tryz.prog dtab ⟨.d0,.d2,.d5,.d6⟩ ir174 := fun_ok (C := cx174) hfol ixok dtab_ok (f := ⟨.d0,.d2,.d5,.d6⟩) (fn := Tryz.f174) Tryz.func174 is174
theorem ok175 : AfOk Tryz.prog dtab ⟨.d0,.d2,.d5,.d7⟩ ir175 := fun_ok (C := cx175) hfol ixok dtab_ok (f := ⟨.d0,.d2,.d5,.d7⟩) (fn := Tryz.f175) Tryz.func175 is175
theorem ok176 : AfOk Tryz.prog dtab ⟨.d0,.d2,.d6,.d0⟩ ir176 := fun_ok (C := cx176) hfol ixok dtab_ok (f := ⟨.d0,.d2,.d6,.d0⟩) (fn := Tryz.f176) Tryz.func176 is176
theorem ok177 : AfOk Tryz.prog dtab ⟨.d0,.d2,.d6,.d1⟩ ir177 := fun_ok (C := cx177) hfol ixok dtab_ok (f := ⟨.d0,.d2,.d6,.d1⟩) (fn := Tryz.f177) Tryz.func177 is177
theorem ok178 : AfOk Tryz.prog dtab ⟨.d0,.d2,.d6,.d2⟩ ir178 := fun_ok (C := cx178) hfol ixok dtab_ok (f := ⟨.d0,.d2,.d6,.d2⟩) (fn := Tryz.f178) Tryz.func178 is178
theorem ok179 : AfOk Tryz.prog dtab ⟨.d0,.d2,.d6,.d3⟩ ir179 := fun_ok (C := cx179) hfol ixok dtab_ok (f := ⟨.d0,.d2,.d6,.d3⟩) (fn := Tryz.f179) Tryz.func179 is179
theorem ok180 : AfOk Tryz.prog dtab ⟨.d0,.d2,.d6,.d4⟩ ir180 := fun_ok (C := cx180) hfol ixok dtab_ok (f := ⟨.d0,.d2,.d6,.d4⟩) (fn := Tryz.f180) Tryz.func180 is180
theorem ok181 : AfOk Tryz.prog dtab ⟨.d0,.d2,.d6,.d5⟩ ir181 := fun_ok (C := cx181) hfol ixok dtab_ok (f := ⟨.d0,.d2,.d6,.d5⟩) (fn := Tryz.f181) Tryz.func181 is181
theorem ok184 : AfOk Tryz.prog dtab ⟨.d0,.d2,.d7,.d0⟩ ir184 := fun_ok (C := cx184) hfol ixok dtab_ok (f := ⟨.d0,.d2,.d7,.d0⟩) (fn := Tryz.f184) Tryz.func184 is184
theorem ok195 : AfOk Tryz.prog dtab ⟨.d0,.d3,.d0,.d3⟩ ir195 := fun_ok (C := cx195) hfol ixok dtab_ok (f := ⟨.d0,.d3,.d0,.d3⟩) (fn := Tryz.f195) Tryz.func195 is195
theorem ok196 : AfOk Tryz.prog dtab ⟨.d0,.d3,.d0,.d4⟩ ir196 := fun_ok (C := cx196) hfol ixok dtab_ok (f := ⟨.d0,.d3,.d0,.d4⟩) (fn := Tryz.f196) Tryz.func196 is196
theorem ok198 : AfOk Tryz.prog dtab ⟨.d0,.d3,.d0,.d6⟩ ir198 := fun_ok (C := cx198) hfol ixok dtab_ok (f := ⟨.d0,.d3,.d0,.d6⟩) (fn := Tryz.f198) Tryz.func198 is198
theorem ok199 : AfOk Tryz.prog dtab ⟨.d0,.d3,.d0,.d7⟩ ir199 := fun_ok (C := cx199) hfol ixok dtab_ok (f := ⟨.d0,.d3,.d0,.d7⟩) (fn := Tryz.f199) Tryz.func199 is199
theorem ok200 : AfOk Tryz.prog dtab ⟨.d0,.d3,.d1,.d0⟩ ir200 := fun_ok (C := cx200) hfol ixok dtab_ok (f := ⟨.d0,.d3,.d1,.d0⟩) (fn := Tryz.f200) Tryz.func200 is200
theorem ok201 : AfOk Tryz.prog dtab ⟨.d0,.d3,.d1,.d1⟩ ir201 := fun_ok (C := cx201) hfol ixok dtab_ok (f := ⟨.d0,.d3,.d1,.d1⟩) (fn := Tryz.f201) Tryz.func201 is201
theorem ok202 : AfOk Tryz.prog dtab ⟨.d0,.d3,.d1,.d2⟩ ir202 := fun_ok (C := cx202) hfol ixok dtab_ok (f := ⟨.d0,.d3,.d1,.d2⟩) (fn := Tryz.f202) Tryz.func202 is202
theorem ok203 : AfOk Tryz.prog dtab ⟨.d0,.d3,.d1,.d3⟩ ir203 := fun_ok (C := cx203) hfol ixok dtab_ok (f := ⟨.d0,.d3,.d1,.d3⟩) (fn := Tryz.f203) Tryz.func203 is203
theorem ok204 : AfOk Tryz.prog dtab ⟨.d0,.d3,.d1,.d4⟩ ir204 := fun_ok (C := cx204) hfol ixok dtab_ok (f := ⟨.d0,.d3,.d1,.d4⟩) (fn := Tryz.f204) Tryz.func204 is204
theorem ok205 : AfOk Tryz.prog dtab ⟨.d0,.d3,.d1,.d5⟩ ir205 := fun_ok (C := cx205) hfol ixok dtab_ok (f := ⟨.d0,.d3,.d1,.d5⟩) (fn := Tryz.f205) Tryz.func205 is205
theorem ok206 : AfOk Tryz.prog dtab ⟨.d0,.d3,.d1,.d6⟩ ir206 := fun_ok (C := cx206) hfol ixok dtab_ok (f := ⟨.d0,.d3,.d1,.d6⟩) (fn := Tryz.f206) Tryz.func206 is206
theorem ok207 : AfOk Tryz.prog dtab ⟨.d0,.d3,.d1,.d7⟩ ir207 := fun_ok (C := cx207) hfol ixok dtab_ok (f := ⟨.d0,.d3,.d1,.d7⟩) (fn := Tryz.f207) Tryz.func207 is207
theorem ok208 : AfOk Tryz.prog dtab ⟨.d0,.d3,.d2,.d0⟩ ir208 := fun_ok (C := cx208) hfol ixok dtab_ok (f := ⟨.d0,.d3,.d2,.d0⟩) (fn := Tryz.f208) Tryz.func208 is208
theorem ok211 : AfOk Tryz.prog dtab ⟨.d0,.d3,.d2,.d3⟩ ir211 := fun_ok (C := cx211) hfol ixok dtab_ok (f := ⟨.d0,.d3,.d2,.d3⟩) (fn := Tryz.f211) Tryz.func211 is211
theorem ok212 : AfOk Tryz.prog dtab ⟨.d0,.d3,.d2,.d4⟩ ir212 := fun_ok (C := cx212) hfol ixok dtab_ok (f := ⟨.d0,.d3,.d2,.d4⟩) (fn := Tryz.f212) Tryz.func212 is212
theorem ok213 : AfOk Tryz.prog dtab ⟨.d0,.d3,.d2,.d5⟩ ir213 := fun_ok (C := cx213) hfol ixok dtab_ok (f := ⟨.d0,.d3,.d2,.d5⟩) (fn := Tryz.f213) Tryz.func213 is213
theorem ok214 : AfOk Tryz.prog dtab ⟨.d0,.d3,.d2,.d6⟩ ir214 := fun_ok (C := cx214) hfol ixok dtab_ok (f := ⟨.d0,.d3,.d2,.d6⟩) (fn := Tryz.f214) Tryz.func214 is214
theorem ok215 : AfOk Tryz.prog dtab ⟨.d0,.d3,.d2,.d7⟩ ir215 := fun_ok (C := cx215) hfol ixok dtab_ok (f := ⟨.d0,.d3,.d2,.d7⟩) (fn := Tryz.f215) Tryz.func215 is215
theorem ok216 : AfOk Tryz.prog dtab ⟨.d0,.d3,.d3,.d0⟩ ir216 := fun_ok (C := cx216) hfol ixok dtab_ok (f := ⟨.d0,.d3,.d3,.d0⟩) (fn := Tryz.f216) Tryz.func216 is216
theorem ok217 : AfOk Tryz.prog dtab ⟨.d0,.d3,.d3,.d1⟩ ir217 := fun_ok (C := cx217) hfol ixok dtab_ok (f := ⟨.d0,.d3,.d3,.d1⟩) (fn := Tryz.f217) Tryz.func217 is217
theorem ok218 : AfOk Tryz.prog dtab ⟨.d0,.d3,.d3,.d2⟩ ir218 := fun_ok (C := cx218) hfol ixok dtab_ok (f := ⟨.d0,.d3,.d3,.d2⟩) (fn := Tryz.f218) Tryz.func218 is218
theorem ok219 : AfOk Tryz.prog dtab ⟨.d0,.d3,.d3,.d3⟩ ir219 := fun_ok (C := cx219) hfol ixok dtab_ok (f := ⟨.d0,.d3,.d3,.d3⟩) (fn := Tryz.f219) Tryz.func219 is219
theorem ok223 : AfOk Tryz.prog dtab ⟨.d0,.d3,.d3,.d7⟩ ir223 := fun_ok (C := cx223) hfol ixok dtab_ok (f := ⟨.d0,.d3,.d3,.d7⟩) (fn := Tryz.f223) Tryz.func223 is223
theorem ok225 : AfOk Tryz.prog dtab ⟨.d0,.d3,.d4,.d1⟩ ir225 := fun_ok (C := cx225) hfol ixok dtab_ok (f := ⟨.d0,.d3,.d4,.d1⟩) (fn := Tryz.f225) Tryz.func225 is225
theorem ok230 : AfOk Tryz.prog dtab ⟨.d0,.d3,.d4,.d6⟩ ir230 := fun_ok (C := cx230) hfol ixok dtab_ok (f := ⟨.d0,.d3,.d4,.d6⟩) (fn := Tryz.f230) Tryz.func230 is230
theorem ok231 : AfOk Tryz.prog dtab ⟨.d0,.d3,.d4,.d7⟩ ir231 := fun_ok (C := cx231) hfol ixok dtab_ok (f := ⟨.d0,.d3,.d4,.d7⟩) (fn := Tryz.f231) Tryz.func231 is231
theorem ok232 : AfOk Tryz.prog dtab ⟨.d0,.d3,.d5,.d0⟩ ir232 := fun_ok (C := cx232) hfol ixok dtab_ok (f := ⟨.d0,.d3,.d5,.d0⟩) (fn := Tryz.f232) Tryz.func232 is232
theorem ok233 : AfOk Tryz.prog dtab ⟨.d0,.d3,.d5,.d1⟩ ir233 := fun_ok (C := cx233) hfol ixok dtab_ok (f := ⟨.d0,.d3,.d5,.d1⟩) (fn := Tryz.f233) Tryz.func233 is233
theorem ok234 : AfOk Tryz.prog dtab ⟨.d0,.d3,.d5,.d2⟩ ir234 := fun_ok (C := cx234) hfol ixok dtab_ok (f := ⟨.d0,.d3,.d5,.d2⟩) (fn := Tryz.f234) Tryz.func234 is234
theorem ok236 : AfOk Tryz.prog dtab ⟨.d0,.d3,.d5,.d4⟩ ir236 := fun_ok (C := cx236) hfol ixok dtab_ok (f := ⟨.d0,.d3,.d5,.d4⟩) (fn := Tryz.f236) Tryz.func236 is236
theorem ok237 : AfOk Tryz.prog dtab ⟨.d0,.d3,.d5,.d5⟩ ir237 := fun_ok (C := cx237) hfol ixok dtab_ok (f := ⟨.d0,.d3,.d5,.d5⟩) (fn := Tryz.f237) Tryz.func237 is237
theorem ok238 : AfOk Tryz.prog dtab ⟨.d0,.d3,.d5,.d6⟩ ir238 := fun_ok (C := cx238) hfol ixok dtab_ok (f := ⟨.d0,.d3,.d5,.d6⟩) (fn := Tryz.f238) Tryz.func238 is238
theorem ok240 : AfOk Tryz.prog dtab ⟨.d0,.d3,.d6,.d0⟩ ir240 := fun_ok (C := cx240) hfol ixok dtab_ok (f := ⟨.d0,.d3,.d6,.d0⟩) (fn := Tryz.f240) Tryz.func240 is240
theorem ok241 : AfOk Tryz.prog dtab ⟨.d0,.d3,.d6,.d1⟩ ir241 := fun_ok (C := cx241) hfol ixok dtab_ok (f := ⟨.d0,.d3,.d6,.d1⟩) (fn := Tryz.f241) Tryz.func241 is241
theorem ok242 : AfOk Tryz.prog dtab ⟨.d0,.d3,.d6,.d2⟩ ir242 := fun_ok (C := cx242) hfol ixok dtab_ok (f := ⟨.d0,.d3,.d6,.d2⟩) (fn := Tryz.f242) Tryz.func242 is242
theorem ok243 : AfOk Tryz.prog dtab ⟨.d0,.d3,.d6,.d3⟩ ir243 := fun_ok (C := cx243) hfol ixok dtab_ok (f := ⟨.d0,.d3,.d6,.d3⟩) (fn := Tryz.f243) Tryz.func243 is243
theorem ok246 : AfOk Tryz.prog dtab ⟨.d0,.d3,.d6,.d6⟩ ir246 := fun_ok (C := cx246) hfol ixok dtab_ok (f := ⟨.d0,.d3,.d6,.d6⟩) (fn := Tryz.f246) Tryz.func246 is246
theorem ok248 : AfOk Tryz.prog dtab ⟨.d0,.d3,.d7,.d0⟩ ir248 := fun_ok (C := cx248) hfol ixok dtab_ok (f := ⟨.d0,.d3,.d7,.d0⟩) (fn := Tryz.f248) Tryz.func248 is248
theorem ok250 : AfOk Tryz.prog dtab ⟨.d0,.d3,.d7,.d2⟩ ir250 := fun_ok (C := cx250) hfol ixok dtab_ok (f := ⟨.d0,.d3,.d7,.d2⟩) (fn := Tryz.f250) Tryz.func250 is250
theorem ok256 : AfOk Tryz.prog dtab ⟨.d0,.d4,.d0,.d0⟩ ir256 := fun_ok (C := cx256) hfol ixok dtab_ok (f := ⟨.d0,.d4,.d0,.d0⟩) (fn := Tryz.f256) Tryz.func256 is256
theorem ok264 : AfOk Tryz.prog dtab ⟨.d0,.d4,.d1,.d0⟩ ir264 := fun_ok (C := cx264) hfol ixok dtab_ok (f := ⟨.d0,.d4,.d1,.d0⟩) (fn := Tryz.f264) Tryz.func264 is264
theorem ok265 : AfOk Tryz.prog dtab ⟨.d0,.d4,.d1,.d1⟩ ir265 := fun_ok (C := cx265) hfol ixok dtab_ok (f := ⟨.d0,.d4,.d1,.d1⟩) (fn := Tryz.f265) Tryz.func265 is265
theorem ok267 : AfOk Tryz.prog dtab ⟨.d0,.d4,.d1,.d3⟩ ir267 := fun_ok (C := cx267) hfol ixok dtab_ok (f := ⟨.d0,.d4,.d1,.d3⟩) (fn := Tryz.f267) Tryz.func267 is267
theorem ok268 : AfOk Tryz.prog dtab ⟨.d0,.d4,.d1,.d4⟩ ir268 := fun_ok (C := cx268) hfol ixok dtab_ok (f := ⟨.d0,.d4,.d1,.d4⟩) (fn := Tryz.f268) Tryz.func268 is268
theorem ok275 : AfOk Tryz.prog dtab ⟨.d0,.d4,.d2,.d3⟩ ir275 := fun_ok (C := cx275) hfol ixok dtab_ok (f := ⟨.d0,.d4,.d2,.d3⟩) (fn := Tryz.f275) Tryz.func275 is275
theorem ok276 : AfOk Tryz.prog dtab ⟨.d0,.d4,.d2,.d4⟩ ir276 := fun_ok (C := cx276) hfol ixok dtab_ok (f := ⟨.d0,.d4,.d2,.d4⟩) (fn := Tryz.f276) Tryz.func276 is276
noncomputable def tab : Tab := (N.mk (N.mk (N.mk (N.mk .none .none .none (.some ir3) (.some ir4) (.some ir5) (.some ir6) (.some ir7)) (N.mk (.some ir8) (.some ir9) (.some ir10) .none (.some ir12) (.some ir13) (.some ir14) (.some ir15)) (N.mk (.some ir16) (.some ir17) (.some ir18) (.some ir19) (.some ir20) (.some ir21) (.some ir22) (.some ir23)) (N.mk (.some ir24) (.some ir25) .none (.some ir27) (.some ir28) (.some ir29) (.some ir30) (.some ir31)) (N.mk (.some ir32) (.some ir33) .none (.some ir35) (.some ir36) (.some ir37) .none .none) (N.mk .none (.some ir41) .none (.some ir43) (.some ir44) (.some ir45) (.some ir46) (.some ir47)) (N.mk (.some ir48) (.some ir49) (.some ir50) (.some ir51) (.some ir52) (.some ir53) (.some ir54) (.some ir55)) (N.mk (.some ir56) (.some ir57) (.some ir58) .none .none (.some ir61) .none .none)) (N.mk (N.mk .none (.some ir65) (.some ir66) (.some ir67) (.some ir68) (.some ir69) .none .none) (N.mk .none .none (.some ir74) (.some ir75) (.some ir76) (.some ir77) (.some ir78) (.some ir79)) (N.mk (.some ir80) .none .none .none (.some ir84) .none (.some ir86) (.some ir87)) (N.mk (.some ir88) (.some ir89) .none .none (.some ir92) (.some ir93) (.some ir94) (.some ir95)) (N.mk (.some ir96) (.some ir97) (.some ir98) (.some ir99) (.some ir100) (.some ir101) (.some ir102) (.some ir103)) (N.mk (.some ir104) (.some ir105) (.some ir106) (.some ir107) (.some ir108) .none (.some ir110) (.some ir111)) (N.mk (.some ir112) (.some ir113) .none .none .none .none (.some ir118) (.some ir119)) (N.mk .none .none .none .none (.some ir124) (.some ir125) (.some ir126) (.some ir127))) (N.mk (N.mk (.some ir128) (.some ir129) (.some ir130) (.some ir131) (.some ir132) (.some ir133) (.some ir134) (.some ir135)) (N.mk (.some ir136) (.some ir137) (.some ir138) (.some ir139) .none (.some ir141) (.some ir142) .none) (N.mk (.some ir144) (.some ir145) (.some ir146) (.some ir147) .none .none .none .none) (N.mk (.some ir152) .none .none .none .none .none .none .none) (N.mk .none (.some ir161) (.some ir162) (.some ir163) (.some ir164) (.some ir165) (.some ir166) (.some ir167)) (N.mk (.some ir168) (.some ir169) (.some ir170) (.some ir171) (.some ir172) .none (.some ir174) (.some ir175)) (N.mk (.some ir176) (.some ir177) (.some ir178) (.some ir179) (.some ir180) (.some ir181) .none .none) (N.mk (.some ir184) .none .none .none .none .none .none .none)) (N.mk (N.mk .none .none .none (.some ir195) (.some ir196) .none (.some ir198) (.some ir199)) (N.mk (.some ir200) (.some ir201) (.some ir202) (.some ir203) (.some ir204) (.some ir205) (.some ir206) (.some ir207)) (N.mk (.some ir208) .none .none (.some ir211) (.some ir212) (.some ir213) (.some ir214) (.some ir215)) (N.mk (.some ir216) (.some ir217) (.some ir218) (.some ir219) .none .none .none (.some ir223)) (N.mk .none (.some ir225) .none .none .none .none (.some ir230) (.some ir231)) (N.mk (.some ir232) (.some ir233) (.some ir234) .none (.some ir236) (.some ir237) (.some ir238) .none) (N.mk (.some ir240) (.some ir241) (.some ir242) (.some ir243) .none .none (.some ir246) .none) (N.mk (.some ir248) .none (.some ir250) .none .none .none .none .none)) (N.mk (N.mk (.some ir256) .none .none .none .none .none .none .none) (N.mk (.some ir264) (.some ir265) .none (.some ir267) (.some ir268) .none .none .none) (N.mk .none .none .none (.some ir275) (.some ir276) .none .none .none) z1 z1 z1 z1 z1) z2 z2 z2) z3 z3 z3 z3 z3 z3 z3)
theorem tab_at : ∀ a b c d, Leaf Tryz.prog dtab ⟨a, b, c, d⟩ (tget tab ⟨a, b, c, d⟩) := (n8a (n8b (n8c (n8d leaf_none leaf_none leaf_none (leaf_some ok3) (leaf_some ok4) (leaf_some ok5) (leaf_some ok6) (leaf_some ok7)) (n8d (leaf_some ok8) (leaf_some ok9) (leaf_some ok10) leaf_none (leaf_some ok12) (leaf_some ok13) (leaf_some ok14) (leaf_some ok15)) (n8d (leaf_some ok16) (leaf_some ok17) (leaf_some ok18) (leaf_some ok19) (leaf_some ok20) (leaf_some ok21) (leaf_some ok22) (leaf_some ok23)) (n8d (leaf_some ok24) (leaf_some ok25) leaf_none (leaf_some ok27) (leaf_some ok28) (leaf_some ok29) (leaf_some ok30) (leaf_some ok31)) (n8d (leaf_some ok32) (leaf_some ok33) leaf_none (leaf_some ok35) (leaf_some ok36) (leaf_some ok37) leaf_none leaf_none) (n8d leaf_none (leaf_some ok41) leaf_none (leaf_some ok43) (leaf_some ok44) (leaf_some ok45) (leaf_some ok46) (leaf_some ok47)) (n8d (leaf_some ok48) (leaf_some ok49) (leaf_some ok50) (leaf_some ok51) (leaf_some ok52) (leaf_some ok53) (leaf_some ok54) (leaf_some ok55)) (n8d (leaf_some ok56) (leaf_some ok57) (leaf_some ok58) leaf_none leaf_none (leaf_some ok61) leaf_none leaf_none)) (n8c (n8d leaf_none (leaf_some ok65) (leaf_some ok66) (leaf_some ok67) (leaf_some ok68) (leaf_some ok69) leaf_none leaf_none) (n8d leaf_none leaf_none (leaf_some ok74) (leaf_some ok75) (leaf_some ok76) (leaf_some ok77) (leaf_some ok78) (leaf_some ok79)) (n8d (leaf_some ok80) leaf_none leaf_none leaf_none (leaf_some ok84) leaf_none (leaf_some ok86) (leaf_some ok87)) (n8d (leaf_some ok88) (leaf_some ok89) leaf_none leaf_none (leaf_some ok92) (leaf_some ok93) (leaf_some ok94) (leaf_some ok95)) (n8d (leaf_some ok96) (leaf_some ok97) (leaf_some ok98) (leaf_some ok99) (leaf_some ok100) (leaf_some ok101) (leaf_some ok102) (leaf_some ok103)) (n8d (leaf_some ok104) (leaf_some ok105) (leaf_some ok106) (leaf_some ok107) (leaf_some ok108) leaf_none (leaf_some ok110) (leaf_some ok111)) (n8d (leaf_some ok112) (leaf_some ok113) leaf_none leaf_none leaf_none leaf_none (leaf_some ok118) (leaf_some ok119)) (n8d leaf_none leaf_none leaf_none leaf_none (leaf_some ok124) (leaf_some ok125) (leaf_some ok126) (leaf_some ok127))) (n8c (n8d (leaf_some ok128) (leaf_some ok129) (leaf_some ok130) (leaf_some ok131) (leaf_some ok132) (leaf_some ok133) (leaf_some ok134) (leaf_some ok135)) (n8d (leaf_some ok136) (leaf_some ok137) (leaf_some ok138) (leaf_some ok139) leaf_none (leaf_some ok141) (leaf_some ok142) leaf_none) (n8d (leaf_some ok144) (leaf_some ok145) (leaf_some ok146) (leaf_some ok147) leaf_none leaf_none leaf_none leaf_none) (n8d (leaf_some ok152) leaf_none leaf_none leaf_none leaf_none leaf_none leaf_none leaf_none) (n8d leaf_none (leaf_some ok161) (leaf_some ok162) (leaf_some ok163) (leaf_some ok164) (leaf_some ok165) (leaf_some ok166) (leaf_some ok167)) (n8d (leaf_some ok168) (leaf_some ok169) (leaf_some ok170) (leaf_some ok171) (leaf_some ok172) leaf_none (leaf_some ok174) (leaf_some ok175)) (n8d (leaf_some ok176) (leaf_some ok177) (leaf_some ok178) (leaf_some ok179) (leaf_some ok180) (leaf_some ok181) leaf_none leaf_none) (n8d (leaf_some ok184) leaf_none leaf_none leaf_none leaf_none leaf_none leaf_none leaf_none)) (n8c (n8d leaf_none leaf_none leaf_none (leaf_some ok195) (leaf_some ok196) leaf_none (leaf_some ok198) (leaf_some ok199)) (n8d (leaf_some ok200) (leaf_some ok201) (leaf_some ok202) (leaf_some ok203) (leaf_some ok204) (leaf_some ok205) (leaf_some ok206) (leaf_some ok207)) (n8d (leaf_some ok208) leaf_none leaf_none (leaf_some ok211) (leaf_some ok212) (leaf_some ok213) (leaf_some ok214) (leaf_some ok215)) (n8d (leaf_some ok216) (leaf_some ok217) (leaf_some ok218) (leaf_some ok219) leaf_none leaf_none leaf_none (leaf_some ok223)) (n8d leaf_none (leaf_some ok225) leaf_none leaf_none leaf_none leaf_none (leaf_some ok230) (leaf_some ok231)) (n8d (leaf_some ok232) (leaf_some ok233) (leaf_some ok234) leaf_none (leaf_some ok236) (leaf_some ok237) (leaf_some ok238) leaf_none) (n8d (leaf_some ok240) (leaf_some ok241) (leaf_some ok242) (leaf_some ok243) leaf_none leaf_none (leaf_some ok246) leaf_none) (n8d (leaf_some ok248) leaf_none (leaf_some ok250) leaf_none leaf_none leaf_none leaf_none leaf_none)) (n8c (n8d (leaf_some ok256) leaf_none leaf_none leaf_none leaf_none leaf_none leaf_none leaf_none) (n8d (leaf_some ok264) (leaf_some ok265) leaf_none (leaf_some ok267) (leaf_some ok268) leaf_none leaf_none leaf_none) (n8d leaf_none leaf_none leaf_none (leaf_some ok275) (leaf_some ok276) leaf_none leaf_none leaf_none) leaf1 leaf1 leaf1 leaf1 leaf1) leaf2 leaf2 leaf2) leaf3 leaf3 leaf3 leaf3 leaf3 leaf3 leaf3)
theorem tab_ok : ∀ f A, tget tab f = some A → AfOk Tryz.prog dtab f A := fun f A h => by obtain ⟨a, b, c, d⟩ := f; exact tab_at a b c d A h
end Go.Ev
