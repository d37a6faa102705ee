import Derived.Test.YtciondmibomehaaGreatDoorFE
import Derived.Lib.Bytealg
import Derived.Conc.AtomicLaws2
import Derived.Lib.MakeNoZero
set_option maxRecDepth 100000
set_option linter.unusedSectionVars false
set_option linter.unusedVariables false
set_option linter.unusedSimpArgs false
set_option linter.constructorNameAsVariable false
noncomputable section
namespace Go.Fm
def isSmall (a : Int) : Bool := leI (-1073741824) a && leI a 1073741824
abbrev Q := Int × Int
def whole (q : Q) : Bool := q.2 == 1
def cmpI (a b : Int) : Int := bif ltI a b then -1 else bif ltI b a then 1 else 0
def sgn (a : Int) : Int := bif ltI a 0 then -1 else bif ltI 0 a then 1 else 0
abbrev V3 := Q × Q × Q
abbrev H := V3 × Q
end Go.Fm
namespace Go.Fm
def vi (n : Int) : V := .int .i64 n
instance (n : Nat) : OfNat X n := ⟨.t n⟩
abbrev qI (n : Int) : X := .c (vi n)
abbrev qT : X := .c (.bool true)
abbrev qF : X := .c (.bool false)
abbrev qX (l : List UInt8) : X := .c (.str ⟨⟨l⟩⟩)
abbrev qz : V := .str ⟨⟨[]⟩⟩
abbrev qo (l : List ROp) (r : RC) : RC := .seq (.ops l) r
abbrev q (d : Nat) (p : PO) : ROp := ⟨some d, none, .p p⟩
abbrev qv (d : Nat) (x : X) : ROp := ⟨some d, none, .p (.mv x)⟩
abbrev qf (d o : Nat) (x : X) : ROp := ⟨some d, none, .p (.fieldA o x)⟩
abbrev qb (d : Nat) (op : BinOp) (x y : X) : ROp := ⟨some d, none, .p (.bin op .i64 x y)⟩
abbrev qe (d : Nat) (x : X) (i : Nat) : ROp := ⟨some d, none, .p (.ext x i)⟩
abbrev qs (d : Nat) (x : X) : ROp := ⟨some d, none, .p (.lenStr x)⟩
abbrev qS (d : Nat) (x : X) : ROp := ⟨some d, none, .p (.lenS x)⟩
abbrev qt (d : Nat) (x : X) : ROp := ⟨some d, none, .p (.not x)⟩
abbrev qn (d : Nat) (x : X) : ROp := ⟨some d, none, .p (.nilck x)⟩
abbrev qk (d : Nat) (c a b : X) : ROp := ⟨some d, none, .p (.pick c a b)⟩
abbrev qm (d : Nat) (p : MO) : ROp := ⟨some d, none, .m p⟩
abbrev ql (d : Nat) (x : X) : ROp := ⟨some d, none, .m (.load 1 false x)⟩
abbrev qw (p : MO) : ROp := ⟨none, none, .m p⟩
abbrev qc (d : Nat) (f : FuncId) (xs : List X) : ROp := ⟨some d, none, .call f xs⟩
abbrev qg (d a : Nat) (b : Bool) (p : PO) : ROp := ⟨some d, some (a, b), .p p⟩
abbrev qmg (d a : Nat) (b : Bool) (p : MO) : ROp := ⟨some d, some (a, b), .m p⟩
abbrev qcg (d a : Nat) (b : Bool) (f : FuncId) (xs : List X) : ROp := ⟨some d, some (a, b), .call f xs⟩
def fn154 : RFn := ⟨5,qo [qm 2 (.alloc [vi 0,.nils] 105)] (qo [qv 3 0,q 4 (.build [vi 0,.nils] [(0,1,3)]),qw (.store 2 2 4)] .ret),[(.c 2 2 true)]⟩
def fn76 : RFn := ⟨6,qo [qm 1 (.box 0 105),qm 2 (.alloc [vi 0,.nils,vi 0,.nils] 107)] (.seq (.drawn [⟨[⟨0,qm 3 (.load 2 true 1)⟩],[],some ⟨1,qc 4 164 [qI 1]⟩,[⟨0,qm 3 (.load 2 true 1)⟩]⟩,⟨[⟨2,q 5 (.build [vi 0,.nils,vi 0,.nils] [(0,2,3),(2,2,4)])⟩],[],some ⟨3,qw (.store 4 2 5)⟩,[]⟩,⟨[],[],none,[]⟩]) .ret),[(.c 2 4 true)]⟩
def fn79 : RFn := ⟨6,qo [qm 2 (.alloc [vi 0,.nils,vi 0,.nils] 107)] (qo [qv 3 0,qc 4 164 [3],qc 5 94 [4],qw (.store 4 2 5)] .ret),[(.c 2 4 true)]⟩
def fn149 : RFn := ⟨7,qo [qm 1 (.box 0 105),qv 2 (qI 0)] (qo [qf 3 0 1,ql 4 3,q 5 (.mm false .i64 (qI 1) [4]),q 6 (.mm true .i64 (qI (-1)) [5]),qv 2 6] .ret),[(.t 2)]⟩
def fn157 : RFn := ⟨26,qo [qm 1 (.box 0 105),qm 2 (.alloc [vi 0,.nils] 105)] (.seq (qo [qf 5 1 1,ql 6 5,q 7 (.nilop .eql .slice 6),qv 8 7,qg 9 8 true (.fieldA 0 1),qmg 10 8 true (.load 1 false 9),qg 11 8 true (.bin .neq .i64 10 (qI (-9223372036854775808))),qk 12 8 11 qF] (.cond 12 (qo [qf 13 0 1,ql 14 13,q 15 (.neg 14),q 16 (.build [vi 0,.nils] [(0,1,15)]),qw (.store 2 2 16)] .ret) .skip)) (qo [qm 18 (.load 2 true 1),qc 19 169 [18],qv 17 19,qe 20 17 0,qe 21 17 1,qv 3 20,qv 4 21] (qo [qv 22 3,qt 23 22,qv 24 4,qc 25 236 [23,24],qw (.store 2 2 25)] .ret))),[(.c 2 2 true)]⟩
def fn148 : RFn := ⟨9,qo [qm 1 (.box 0 105),qm 2 (.alloc [vi 0,.nils] 105)] (.seq (qo [qf 3 0 1,ql 4 3,qb 5 .lss 4 (qI 0)] (.cond 5 (qo [qm 6 (.load 2 true 1),qc 7 167 [6],qw (.store 2 2 7)] .ret) .skip)) (qo [qm 8 (.load 2 true 1),qw (.store 2 2 8)] .ret)),[(.c 2 2 true)]⟩
def fn156 : RFn := ⟨67,qo [qm 2 (.box 0 105),qm 3 (.box 1 105),qm 4 (.alloc [vi 0,.nils] 105)] (.seq (qo [qf 10 1 2,ql 11 10,q 12 (.nilop .eql .slice 11),qv 13 12,qg 14 13 true (.fieldA 1 3),qmg 15 13 true (.load 1 false 14),qg 16 13 true (.nilop .eql .slice 15),qk 17 13 16 qF] (.cond 17 (qo [qf 18 0 2,ql 19 18,qf 20 0 3,ql 21 20,qb 22 .add 19 21,qv 5 22] (qo [qv 23 5,qf 24 0 2,ql 25 24,qb 26 .gtr 23 25,qf 27 0 3,ql 28 27,qb 29 .gtr 28 (qI 0),q 30 (.boolop .eql 26 29)] (.cond 30 (qo [qv 31 5,q 32 (.build [vi 0,.nils] [(0,1,31)]),qw (.store 2 4 32)] .ret) .skip))) .skip)) (qo [qm 34 (.load 2 true 2),qc 35 169 [34],qv 33 35,qe 36 33 0,qe 37 33 1,qv 6 36,qv 7 37] (qo [qm 39 (.load 2 true 3),qc 40 169 [39],qv 38 40,qe 41 38 0,qe 42 38 1,qv 8 41,qv 9 42] (.seq (.block 0 (qo [qv 44 6,qv 45 8,q 46 (.boolop .eql 44 45),qv 43 46] (.cond 43 (qo [qv 47 6,qv 48 7,qv 49 9,qc 50 242 [48,49],qc 51 236 [47,50],qw (.store 2 4 51)] .ret) (qo [qv 53 7,qv 54 9,qc 55 243 [53,54],qb 56 .geq 55 (qI 0),qv 52 56] (.cond 52 (qo [qv 57 6,qv 58 7,qv 59 9,qc 60 244 [58,59],qc 61 236 [57,60],qw (.store 2 4 61)] .ret) .skip))))) (qo [qv 62 8,qv 63 9,qv 64 7,qc 65 244 [63,64],qc 66 236 [62,65],qw (.store 2 4 66)] .ret))))),[(.c 4 2 true)]⟩
def fn278 : RFn := ⟨29,qo [qm 2 (.box 0 105),qm 3 (.box 1 105),qv 4 (qI 0)] (.seq (qo [qf 5 1 2,ql 6 5,q 7 (.nilop .eql .slice 6),qv 8 7,qg 9 8 true (.fieldA 1 3),qmg 10 8 true (.load 1 false 9),qg 11 8 true (.nilop .eql .slice 10),qk 12 8 11 qF] (.cond 12 (.seq (.block 0 (qo [qf 14 0 2,ql 15 14,qf 16 0 3,ql 17 16,qb 18 .lss 15 17,qv 13 18] (.cond 13 (qo [qv 4 (qI (-1))] .ret) (qo [qf 20 0 2,ql 21 20,qf 22 0 3,ql 23 22,qb 24 .gtr 21 23,qv 19 24] (.cond 19 (qo [qv 4 (qI 1)] .ret) .skip))))) (qo [qv 4 (qI 0)] .ret)) .skip)) (qo [qm 25 (.load 2 true 2),qm 26 (.load 2 true 3),qc 27 237 [25,26],qc 28 160 [27],qv 4 28] .ret)),[(.t 4)]⟩
def fn80 : RFn := ⟨13,qo [qm 1 (.box 0 107),qv 2 qF] (qo [qf 3 2 1,qf 4 1 3,ql 5 4,q 6 (.nilop .eql .slice 5),qv 7 6,qg 8 7 true (.fieldA 2 1),qg 9 7 true (.fieldA 0 8),qmg 10 7 true (.load 1 false 9),qg 11 7 true (.bin .eql .i64 10 (qI 1)),qk 12 7 11 qF,qv 2 12] .ret),[(.t 2)]⟩
def fn227 : RFn := ⟨10,qo [qv 2 (.c (.int .u64 0))] (.seq (qo [qv 3 0,qb 4 .lss 3 (qI 0)] (.cond 4 (qo [qv 5 0,q 6 (.neg 5),q 7 (.convI .i64 .u64 6),qv 2 7] .ret) .skip)) (qo [qv 8 0,q 9 (.convI .i64 .u64 8),qv 2 9] .ret)),[(.t 2)]⟩
def fn226 : RFn := ⟨51,qo [qv 4 (.c (.int .u64 0)),qv 5 (.c (.int .u64 0))] (qo [qv 14 0,q 15 (.bin .and .u64 14 (.c (.int .u64 4294967295))),qv 6 15] (qo [qv 16 0,q 17 (.shift .shr .u64 .u64 16 (.c (.int .u64 32))),qv 7 17] (qo [qv 18 1,q 19 (.bin .and .u64 18 (.c (.int .u64 4294967295))),qv 8 19] (qo [qv 20 1,q 21 (.shift .shr .u64 .u64 20 (.c (.int .u64 32))),qv 9 21] (qo [qv 22 6,qv 23 8,q 24 (.bin .mul .u64 22 23),qv 10 24] (qo [qv 25 7,qv 26 8,q 27 (.bin .mul .u64 25 26),qv 28 10,q 29 (.shift .shr .u64 .u64 28 (.c (.int .u64 32))),q 30 (.bin .add .u64 27 29),qv 11 30] (qo [qv 31 11,q 32 (.bin .and .u64 31 (.c (.int .u64 4294967295))),qv 12 32] (qo [qv 33 11,q 34 (.shift .shr .u64 .u64 33 (.c (.int .u64 32))),qv 13 34] (qo [qv 35 12,qv 36 6,qv 37 9,q 38 (.bin .mul .u64 36 37),q 39 (.bin .add .u64 35 38),qv 12 39] (qo [qv 40 7,qv 41 9,q 42 (.bin .mul .u64 40 41),qv 43 13,q 44 (.bin .add .u64 42 43),qv 45 12,q 46 (.shift .shr .u64 .u64 45 (.c (.int .u64 32))),q 47 (.bin .add .u64 44 46),qv 4 47] (qo [qv 48 0,qv 49 1,q 50 (.bin .mul .u64 48 49),qv 5 50] .ret))))))))))),[(.t 4),(.t 5)]⟩
def fn153 : RFn := ⟨66,qo [qm 2 (.box 0 105),qm 3 (.box 1 105),qm 4 (.alloc [vi 0,.nils] 105)] (.seq (qo [qf 11 1 2,ql 12 11,q 13 (.nilop .eql .slice 12),qv 14 13,qg 15 14 true (.fieldA 1 3),qmg 16 14 true (.load 1 false 15),qg 17 14 true (.nilop .eql .slice 16),qk 18 14 17 qF] (.cond 18 (.seq (.drawn [⟨[⟨0,qf 20 0 2⟩,⟨1,ql 21 20⟩,⟨3,qf 23 0 3⟩,⟨4,ql 24 23⟩],[],some ⟨2,qc 22 240 [21]⟩,[⟨4,ql 24 23⟩]⟩,⟨[],[],some ⟨5,qc 25 240 [24]⟩,[]⟩,⟨[],[],some ⟨6,qc 26 239 [22,25]⟩,[]⟩,⟨[⟨7,qv 19 26⟩,⟨8,qe 27 19 0⟩,⟨9,qe 28 19 1⟩,⟨10,qv 5 27⟩,⟨11,qv 6 28⟩],[],none,[]⟩]) (qo [qv 29 5,q 30 (.bin .eql .u64 29 (.c (.int .u64 0))),qv 31 30,qg 32 31 true (.mv 6),qg 33 31 true (.bin .leq .u64 32 (.c (.int .u64 9223372036854775807))),qk 34 31 33 qF] (.cond 34 (.seq (qo [qf 35 0 2,ql 36 35,qb 37 .lss 36 (qI 0),qf 38 0 3,ql 39 38,qb 40 .lss 39 (qI 0),q 41 (.boolop .neq 37 40)] (.cond 41 (qo [qv 42 6,q 43 (.convI .u64 .i64 42),q 44 (.neg 43),q 45 (.build [vi 0,.nils] [(0,1,44)]),qw (.store 2 4 45)] .ret) .skip)) (qo [qv 46 6,q 47 (.convI .u64 .i64 46),q 48 (.build [vi 0,.nils] [(0,1,47)]),qw (.store 2 4 48)] .ret)) .skip))) .skip)) (qo [qm 50 (.load 2 true 2),qc 51 169 [50],qv 49 51,qe 52 49 0,qe 53 49 1,qv 7 52,qv 8 53] (qo [qm 55 (.load 2 true 3),qc 56 169 [55],qv 54 56,qe 57 54 0,qe 58 54 1,qv 9 57,qv 10 58] (qo [qv 59 7,qv 60 9,q 61 (.boolop .neq 59 60),qv 62 8,qv 63 10,qc 64 241 [62,63],qc 65 236 [61,64],qw (.store 2 4 65)] .ret)))),[(.c 4 2 true)]⟩
def fn150 : RFn := ⟨84,qo [qm 2 (.box 0 105),qm 3 (.box 1 105),qm 4 (.alloc [vi 0,.nils] 105),qm 5 (.alloc [vi 0,.nils] 105)] (.seq (qo [qf 16 1 2,ql 17 16,q 18 (.nilop .eql .slice 17),qv 19 18,qg 20 19 true (.fieldA 1 3),qmg 21 19 true (.load 1 false 20),qg 22 19 true (.nilop .eql .slice 21),qk 23 19 22 qF,qv 24 23,qg 25 24 true (.fieldA 0 2),qmg 26 24 true (.load 1 false 25),qg 27 24 true (.bin .neq .i64 26 (qI (-9223372036854775808))),qk 28 24 27 qF] (.cond 28 (.seq (.drawn [⟨[⟨0,qf 29 0 2⟩,⟨1,ql 30 29⟩,⟨2,qf 31 0 3⟩,⟨3,ql 32 31⟩,⟨4,qb 33 .quo 30 32⟩,⟨5,qf 34 0 2⟩,⟨6,ql 35 34⟩,⟨7,qf 36 0 3⟩,⟨8,ql 37 36⟩,⟨9,qb 38 .rem 35 37⟩,⟨10,qv 6 33⟩,⟨11,qv 7 38⟩],[],none,[]⟩]) (.seq (qo [qv 39 7,qb 40 .lss 39 (qI 0)] (.cond 40 (.drawn [⟨[⟨0,qv 41 6⟩,⟨1,qb 42 .sub 41 (qI 1)⟩,⟨2,qv 43 7⟩,⟨3,qf 44 0 3⟩,⟨4,ql 45 44⟩,⟨5,qb 46 .add 43 45⟩,⟨6,qv 6 42⟩,⟨7,qv 7 46⟩],[],none,[]⟩]) .skip)) (qo [qv 47 6,q 48 (.build [vi 0,.nils] [(0,1,47)]),qv 49 7,q 50 (.build [vi 0,.nils] [(0,1,49)]),qw (.store 2 4 48),qw (.store 2 5 50)] .ret))) .skip)) (qo [qm 52 (.load 2 true 2),qc 53 169 [52],qv 51 53,qe 54 51 0,qe 55 51 1,qv 8 54,qv 9 55] (qo [qm 57 (.load 2 true 3),qc 58 169 [57],qv 56 58,qe 59 56 0,qe 60 56 1,qv 10 59,qv 11 60] (qo [qv 62 9,qv 63 11,qc 64 170 [62,63],qv 61 64,qe 65 61 0,qe 66 61 1,qv 12 65,qv 13 66] (qo [qv 67 8,qv 68 12,qc 69 236 [67,68],qv 70 8,qv 71 13,qc 72 236 [70,71],qm 14 (.alloc [vi 0,.nils] 105),qm 15 (.alloc [vi 0,.nils] 105),qw (.store 2 14 69),qw (.store 2 15 72)] (.seq (qo [qm 73 (.load 2 true 15),qc 74 160 [73],qb 75 .lss 74 (qI 0)] (.cond 75 (.drawn [⟨[⟨0,qm 76 (.load 2 true 14)⟩,⟨3,qm 79 (.load 2 true 15)⟩,⟨4,qm 80 (.load 2 true 3)⟩],[],some ⟨1,qc 77 164 [qI 1]⟩,[⟨0,qm 76 (.load 2 true 14)⟩,⟨3,qm 79 (.load 2 true 15)⟩,⟨4,qm 80 (.load 2 true 3)⟩]⟩,⟨[],[],some ⟨2,qc 78 237 [76,77]⟩,[⟨3,qm 79 (.load 2 true 15)⟩,⟨4,qm 80 (.load 2 true 3)⟩]⟩,⟨[],[],some ⟨5,qc 81 166 [79,80]⟩,[]⟩,⟨[],[],some ⟨6,qw (.store 2 14 78)⟩,[]⟩,⟨[],[],some ⟨7,qw (.store 2 15 81)⟩,[]⟩,⟨[],[],none,[]⟩]) .skip)) (.seq (.drawn [⟨[⟨0,qm 82 (.load 2 true 14)⟩,⟨1,qm 83 (.load 2 true 15)⟩],[],some ⟨2,qw (.store 2 4 82)⟩,[⟨1,qm 83 (.load 2 true 15)⟩]⟩,⟨[],[],some ⟨3,qw (.store 2 5 83)⟩,[]⟩,⟨[],[],none,[]⟩]) .ret))))))),[(.c 4 2 true),(.c 5 2 true)]⟩
def fn322 : RFn := ⟨21,qo [qm 2 (.box 0 105),qm 3 (.box 1 105),qm 4 (.alloc [vi 0,.nils] 105)] (.seq (qo [qm 7 (.load 2 true 3),qc 8 160 [7],qb 9 .lss 8 (qI 0)] (.cond 9 (.drawn [⟨[⟨0,qm 10 (.load 2 true 2)⟩,⟨2,qm 12 (.load 2 true 3)⟩],[],some ⟨1,qc 11 167 [10]⟩,[⟨2,qm 12 (.load 2 true 3)⟩]⟩,⟨[],[],some ⟨3,qc 13 167 [12]⟩,[]⟩,⟨[],[],some ⟨4,qw (.store 2 2 11)⟩,[]⟩,⟨[],[],some ⟨5,qw (.store 2 3 13)⟩,[]⟩,⟨[],[],none,[]⟩]) .skip)) (qo [qm 15 (.load 2 true 2),qm 16 (.load 2 true 3),qc 17 161 [15,16],qv 14 17,qe 18 14 0,qe 19 14 1,qm 5 (.alloc [vi 0,.nils] 105),qm 6 (.alloc [vi 0,.nils] 105),qw (.store 2 5 18),qw (.store 2 6 19)] (qo [qm 20 (.load 2 true 5),qw (.store 2 4 20)] .ret))),[(.c 4 2 true)]⟩
def bd73 : RC := .seq (qo [qm 11 (.load 2 true 3),qc 12 160 [11],qb 13 .neq 12 (qI 0)] (.cond 13 .skip (.exit 0))) (.block 1 (qo [qm 15 (.load 2 true 2),qm 16 (.load 2 true 3),qc 17 161 [15,16],qv 14 17,qe 18 14 0,qe 19 14 1,qm 5 (.alloc [vi 0,.nils] 105),qm 6 (.alloc [vi 0,.nils] 105),qw (.store 2 5 18),qw (.store 2 6 19)] (.drawn [⟨[⟨0,qm 20 (.load 2 true 3)⟩,⟨1,qm 21 (.load 2 true 6)⟩],[],some ⟨2,qw (.store 2 2 20)⟩,[⟨1,qm 21 (.load 2 true 6)⟩]⟩,⟨[],[],some ⟨3,qw (.store 2 3 21)⟩,[]⟩,⟨[],[],none,[]⟩])))
def fn73 : RFn := ⟨23,qo [qm 2 (.box 0 105),qm 3 (.box 1 105),qm 4 (.alloc [vi 0,.nils] 105)] (.seq (.drawn [⟨[⟨0,qm 7 (.load 2 true 2)⟩,⟨2,qm 9 (.load 2 true 3)⟩],[],some ⟨1,qc 8 159 [7]⟩,[⟨2,qm 9 (.load 2 true 3)⟩]⟩,⟨[],[],some ⟨3,qc 10 159 [9]⟩,[]⟩,⟨[],[],some ⟨4,qw (.store 2 2 8)⟩,[]⟩,⟨[],[],some ⟨5,qw (.store 2 3 10)⟩,[]⟩,⟨[],[],none,[]⟩]) (.seq (.block 0 (.loop bd73)) (qo [qm 22 (.load 2 true 2),qw (.store 2 4 22)] .ret))),[(.c 4 2 true)]⟩
def fn220 : RFn := ⟨34,qo [qm 2 (.box 0 105),qm 3 (.box 1 105),qm 4 (.alloc [vi 0,.nils,vi 0,.nils] 107)] (.seq (qo [qm 6 (.load 2 true 3),qc 7 160 [6],qb 8 .lss 7 (qI 0)] (.cond 8 (.drawn [⟨[⟨0,qm 9 (.load 2 true 2)⟩,⟨2,qm 11 (.load 2 true 3)⟩],[],some ⟨1,qc 10 167 [9]⟩,[⟨2,qm 11 (.load 2 true 3)⟩]⟩,⟨[],[],some ⟨3,qc 12 167 [11]⟩,[]⟩,⟨[],[],some ⟨4,qw (.store 2 2 10)⟩,[]⟩,⟨[],[],some ⟨5,qw (.store 2 3 12)⟩,[]⟩,⟨[],[],none,[]⟩]) .skip)) (.seq (qo [qf 13 1 3,ql 14 13,q 15 (.nilop .eql .slice 14),qv 16 15,qg 17 16 true (.fieldA 0 3),qmg 18 16 true (.load 1 false 17),qg 19 16 true (.bin .eql .i64 18 (qI 1)),qk 20 16 19 qF] (.cond 20 (qo [qm 21 (.load 2 true 2),qm 22 (.load 2 true 3),q 23 (.build [vi 0,.nils,vi 0,.nils] [(0,2,21),(2,2,22)]),qw (.store 4 4 23)] .ret) .skip)) (qo [qm 24 (.load 2 true 2),qm 25 (.load 2 true 3),qc 26 91 [24,25],qm 5 (.alloc [vi 0,.nils] 105),qw (.store 2 5 26)] (.seq (.drawn [⟨[⟨0,qm 27 (.load 2 true 2)⟩,⟨1,qm 28 (.load 2 true 5)⟩,⟨3,qm 30 (.load 2 true 3)⟩,⟨4,qm 31 (.load 2 true 5)⟩],[],some ⟨2,qc 29 333 [27,28]⟩,[⟨3,qm 30 (.load 2 true 3)⟩,⟨4,qm 31 (.load 2 true 5)⟩]⟩,⟨[],[],some ⟨5,qc 32 333 [30,31]⟩,[]⟩,⟨[⟨6,q 33 (.build [vi 0,.nils,vi 0,.nils] [(0,2,29),(2,2,32)])⟩],[],some ⟨7,qw (.store 4 4 33)⟩,[]⟩,⟨[],[],none,[]⟩]) .ret)))),[(.c 4 4 true)]⟩
def fn140 : RFn := ⟨34,qo [qm 2 (.box 0 107),qm 3 (.box 1 107),qm 4 (.alloc [vi 0,.nils,vi 0,.nils] 107)] (.seq (qo [qm 5 (.load 4 true 2),qc 6 98 [5],qv 7 6,qmg 8 7 true (.load 4 true 3),qcg 9 7 true 98 [8],qk 10 7 9 qF] (.cond 10 (qo [qf 11 0 2,qm 12 (.load 2 true 11),qf 13 0 3,qm 14 (.load 2 true 13),qc 15 166 [12,14],qc 16 94 [15],qw (.store 4 4 16)] .ret) .skip)) (.seq (.drawn [⟨[⟨0,qf 17 0 2⟩,⟨1,qm 18 (.load 2 true 17)⟩,⟨2,qf 19 2 3⟩,⟨3,qm 20 (.load 2 true 19)⟩,⟨5,qf 22 0 3⟩,⟨6,qm 23 (.load 2 true 22)⟩,⟨7,qf 24 2 2⟩,⟨8,qm 25 (.load 2 true 24)⟩,⟨11,qf 28 2 2⟩,⟨12,qm 29 (.load 2 true 28)⟩,⟨13,qf 30 2 3⟩,⟨14,qm 31 (.load 2 true 30)⟩],[],some ⟨4,qc 21 163 [18,20]⟩,[⟨6,qm 23 (.load 2 true 22)⟩,⟨8,qm 25 (.load 2 true 24)⟩,⟨12,qm 29 (.load 2 true 28)⟩,⟨14,qm 31 (.load 2 true 30)⟩]⟩,⟨[],[],some ⟨9,qc 26 163 [23,25]⟩,[⟨12,qm 29 (.load 2 true 28)⟩,⟨14,qm 31 (.load 2 true 30)⟩]⟩,⟨[],[],some ⟨10,qc 27 166 [21,26]⟩,[⟨12,qm 29 (.load 2 true 28)⟩,⟨14,qm 31 (.load 2 true 30)⟩]⟩,⟨[],[],some ⟨15,qc 32 163 [29,31]⟩,[]⟩,⟨[],[],some ⟨16,qc 33 234 [27,32]⟩,[]⟩,⟨[],[],some ⟨17,qw (.store 4 4 33)⟩,[]⟩,⟨[],[],none,[]⟩]) .ret)),[(.c 4 4 true)]⟩
def fn142 : RFn := ⟨16,qo [qm 2 (.box 0 107),qm 3 (.box 1 107),qm 4 (.alloc [vi 0,.nils,vi 0,.nils] 107)] (.seq (.drawn [⟨[⟨0,qf 5 0 2⟩,⟨1,qm 6 (.load 2 true 5)⟩,⟨2,qf 7 0 3⟩,⟨3,qm 8 (.load 2 true 7)⟩,⟨5,qf 10 2 2⟩,⟨6,qm 11 (.load 2 true 10)⟩,⟨7,qf 12 2 3⟩,⟨8,qm 13 (.load 2 true 12)⟩],[],some ⟨4,qc 9 163 [6,8]⟩,[⟨6,qm 11 (.load 2 true 10)⟩,⟨8,qm 13 (.load 2 true 12)⟩]⟩,⟨[],[],some ⟨9,qc 14 163 [11,13]⟩,[]⟩,⟨[],[],some ⟨10,qc 15 234 [9,14]⟩,[]⟩,⟨[],[],some ⟨11,qw (.store 4 4 15)⟩,[]⟩,⟨[],[],none,[]⟩]) .ret),[(.c 4 4 true)]⟩
def fn187 : RFn := ⟨16,qo [qm 2 (.box 0 107),qm 3 (.box 1 107),qv 4 (qI 0)] (.seq (.drawn [⟨[⟨0,qf 5 0 2⟩,⟨1,qm 6 (.load 2 true 5)⟩,⟨2,qf 7 2 3⟩,⟨3,qm 8 (.load 2 true 7)⟩,⟨5,qf 10 0 3⟩,⟨6,qm 11 (.load 2 true 10)⟩,⟨7,qf 12 2 2⟩,⟨8,qm 13 (.load 2 true 12)⟩],[],some ⟨4,qc 9 163 [6,8]⟩,[⟨6,qm 11 (.load 2 true 10)⟩,⟨8,qm 13 (.load 2 true 12)⟩]⟩,⟨[],[],some ⟨9,qc 14 163 [11,13]⟩,[]⟩,⟨[],[],some ⟨10,qc 15 291 [9,14]⟩,[]⟩,⟨[⟨11,qv 4 15⟩],[],none,[]⟩]) .ret),[(.t 4)]⟩
def midB (a : Int) : Bool := leI (-4611686018427387903) a && leI a 4611686018427387903
theorem mid_of {a : Int} (h : midB a = true) : Mid a := by
  unfold midB at h
  rw [Bool.and_eq_true] at h
  exact ⟨leI_iff h.1, leI_iff h.2⟩
def outN (a : Int) : Option V := bif midB a then some (vn a) else none
def t1 (g : Int → Option V) : List V → Option V
  | [.agg [.int .i64 a, .nils]] => bif midB a then g a else none
  | _ => none
def t2 (g : Int → Int → Option V) : List V → Option V
  | [.agg [.int .i64 a, .nils], .agg [.int .i64 b, .nils]] => bif midB a && midB b then g a b else none
  | _ => none
theorem t1_inv {g : Int → Option V} {vs : List V} {v : V} (h : t1 g vs = some v) : ∃ a, vs = [vn a] ∧ Mid a ∧ g a = some v := by
  unfold t1 at h
  split at h
  · rename_i a
    obtain ⟨h1, h⟩ := bif_none h
    exact ⟨a, rfl, mid_of h1, h⟩
  · cases h
theorem t2_inv {g : Int → Int → Option V} {vs : List V} {v : V} (h : t2 g vs = some v) : ∃ a b, vs = [vn a, vn b] ∧ Mid a ∧ Mid b ∧ g a b = some v := by
  unfold t2 at h
  split at h
  · rename_i a b
    obtain ⟨h1, h⟩ := bif_none h
    rw [Bool.and_eq_true] at h1
    exact ⟨a, b, rfl, mid_of h1.1, mid_of h1.2, h⟩
  · cases h
theorem outN_inv {a : Int} {v : V} (h : outN a = some v) : v = vn a ∧ Mid a := by
  obtain ⟨h1, h⟩ := bif_none h
  injection h with h
  exact ⟨h.symm, mid_of h1⟩
def tOf : List V → Option V
  | [.int .i64 a] => outN a
  | _ => none
def tWhole := t1 fun a => some (vf a 1)
def tF : List V → Option V
  | [.int .i64 a] => bif midB a then some (vf a 1) else none
  | _ => none
def tSign := t1 fun a => some (vi (sgn a))
def tNeg := t1 fun a => some (vn (-a))
def tAbs := t1 fun a => some (vn a.natAbs)
def tAdd := t2 fun a b => outN (a + b)
def tMul := t2 fun a b => outN (a * b)
def tCmp := t2 fun a b => some (vi (cmpI a b))
def tDivMod := t2 fun a b => bif ltI 0 b then some (.tup [vn (a / b), vn (a % b)]) else none
def quo (a b : Int) : Int := bif ltI b 0 then (-a) / (-b) else a / b
def tQuo := t2 fun a b => bif b == 0 then none else some (vn (quo a b))
def tGcd := t2 fun a b => some (vn (Int.ofNat (Nat.gcd a.natAbs b.natAbs)))
def tSize : List V → Option V
  | [.int .i64 a] => bif midB a then some (.int .u64 a.natAbs) else none
  | _ => none
def tMul64 : List V → Option V
  | [.int .u64 x, .int .u64 y] => bif (leI 0 x && leI x 4611686018427387903) && (leI 0 y && leI y 4611686018427387903) then some (.tup [.int .u64 (x * y / 18446744073709551616), .int .u64 (x * y % 18446744073709551616)]) else none
  | _ => none
theorem midB_of {a : Int} (h : Mid a) : midB a = true := by
  unfold midB
  rw [Bool.and_eq_true]
  exact ⟨decide_eq_true h.1, decide_eq_true h.2⟩
theorem t1_at {g : Int → Option V} {a : Int} (h : Mid a) : t1 g [vn a] = g a := by
  show (bif midB a then g a else none) = _
  rw [midB_of h]; rfl
theorem t2_at {g : Int → Int → Option V} {a b : Int} (h : Mid a) (h' : Mid b) : t2 g [vn a, vn b] = g a b := by
  show (bif midB a && midB b then g a b else none) = _
  rw [midB_of h, midB_of h']; rfl
theorem outN_at {a : Int} (h : Mid a) : outN a = some (vn a) := by
  unfold outN
  rw [midB_of h]; rfl
section
variable {E : Env'}
attribute [local irreducible] callK
theorem r154 (h : Has E 164 fn154) (a : Int) : Gives E 164 [vi a] (vn a) := by
  refine h.gives 50 ?_
  conv => arg 2; whnf
  exact Ok.done rfl
theorem r149 (h : Has E 160 fn149) (a : Int) : Gives E 160 [vn a] (vi (sgn a)) := by
  refine h.gives 50 ?_
  conv => arg 2; whnf
  refine Ok.done (congrArg (V.int .i64) (?_ : mmI true (-1) (mmI false 1 a) = sgn a))
  unfold mmI sgn
  simp only [ltI, cond_eq_ite, decide_eq_true_eq, Bool.false_eq_true, if_false, if_true]
  repeat' split
  all_goals omega
theorem r157 (h : Has E 167 fn157) {a : Int} (ha : Mid a) : Gives E 167 [vn a] (vn (-a)) := by
  obtain ⟨ha1, ha2⟩ := ha
  refine h.gives 50 ?_
  conv => arg 2; whnf
  refine Ok.tt ?_ ?_
  · show Bool.rec true false (eqIK a (-9223372036854775808)) = true
    rw [eqIK_ff (by omega)]
  conv => arg 2; whnf
  refine Ok.done (congrArg vn (?_ : IntKind.i64.wrap (0 - a) = -a))
  rw [wrapI (by omega) (by omega)]; omega
theorem r156 (h : Has E 166 fn156) {a b : Int} (ha : Mid a) (hb : Mid b) : Gives E 166 [vn a, vn b] (vn (a + b)) := by
  obtain ⟨ha1, ha2⟩ := ha
  obtain ⟨hb1, hb2⟩ := hb
  have hw : wrapK .i64 (a + b) = a + b := wrapS (by omega) (by omega)
  refine h.gives 50 ?_
  conv => arg 2; whnf
  refine Ok.tt (b := ltIK a (wrapK .i64 (a + b)) == ltIK 0 b) ?_ ?_
  · rw [hw]
    rcases Int.lt_or_le 0 b with q | q
    · rw [ltIK_tt (by omega), ltIK_tt q]; rfl
    · rw [ltIK_ff (by omega), ltIK_ff q]; rfl
  conv => arg 2; whnf
  exact Ok.done (congrArg vn hw)
theorem r278 (h : Has E 291 fn278) (a b : Int) : Gives E 291 [vn a, vn b] (vi (cmpI a b)) := by
  refine h.gives 50 ?_
  conv => arg 2; whnf
  refine Ok.ite (ltIK a b) (fun q => ?_) (fun q => ?_)
  · conv => arg 2; whnf
    refine Ok.done (congrArg vi (?_ : -1 = cmpI a b))
    rw [ltIK_eq] at q
    unfold cmpI; rw [q]; rfl
  conv => arg 2; whnf
  rw [ltIK_eq] at q
  refine Ok.ite (ltIK b a) (fun q2 => ?_) (fun q2 => ?_)
  · conv => arg 2; whnf
    refine Ok.done (congrArg vi (?_ : 1 = cmpI a b))
    rw [ltIK_eq] at q2
    unfold cmpI; rw [q, q2]; rfl
  · conv => arg 2; whnf
    refine Ok.done (congrArg vi (?_ : 0 = cmpI a b))
    rw [ltIK_eq] at q2
    unfold cmpI; rw [q, q2]; rfl
theorem r76 (h : Has E 94 fn76) (h154 : E.nat.get 164 = some tOf) (a : Int) : Gives E 94 [vn a] (vf a 1) := by
  refine h.gives 50 ?_
  conv => arg 2; whnf
  refine Ok.opt (callK_nat (vs := [vi 1]) (v := vn 1) h154 _ rfl _ _) ?_
  conv => arg 2; whnf
  refine Ok.tt (rec_ok (show (V.same (vn a) (vn a) && true) = true by rw [same_vn]; rfl)) ?_
  conv => arg 2; whnf
  exact Ok.done rfl
theorem r79 (h : Has E 97 fn79) (h154 : E.nat.get 164 = some tOf) (h76 : E.nat.get 94 = some tWhole) {a : Int} (ha : Mid a) : Gives E 97 [vi a] (vf a 1) := by
  refine h.gives 50 ?_
  conv => arg 2; whnf
  refine Ok.opt (callK_nat (vs := [vi a]) (v := vn a) h154 _ (outN_at ha) _ _) ?_
  conv => arg 2; whnf
  refine Ok.opt (callK_nat (vs := [vn a]) (v := vf a 1) h76 _ (t1_at ha) _ _) ?_
  conv => arg 2; whnf
  exact Ok.done rfl
theorem r148 (h : Has E 159 fn148) (h157 : E.nat.get 167 = some tNeg) {a : Int} (ha : Mid a) : Gives E 159 [vn a] (vn a.natAbs) := by
  refine h.gives 50 ?_
  conv => arg 2; whnf
  refine Ok.ite (ltIK a 0) (fun q => ?_) (fun q => ?_)
  · conv => arg 2; whnf
    refine Ok.opt (callK_nat (vs := [vn a]) (v := vn (-a)) h157 _ (t1_at ha) _ _) ?_
    conv => arg 2; whnf
    rw [ltIK_eq] at q
    have := ltI_iff q
    refine Ok.done (congrArg vn (?_ : -a = _))
    omega
  · conv => arg 2; whnf
    rw [ltIK_eq] at q
    have : ¬ a < 0 := by simpa [ltI] using q
    refine Ok.done (congrArg vn (?_ : a = _))
    omega
theorem r227 (h : Has E 240 fn227) {a : Int} (ha : Mid a) : Gives E 240 [vi a] (.int .u64 a.natAbs) := by
  obtain ⟨ha1, ha2⟩ := ha
  refine h.gives 50 ?_
  conv => arg 2; whnf
  refine Ok.ite (ltIK a 0) (fun q => ?_) (fun q => ?_)
  · conv => arg 2; whnf
    refine Ok.done (congrArg (V.int .u64) (?_ : wrapK .u64 (IntKind.i64.wrap (0 - a)) = _))
    rw [ltIK_eq] at q
    have := ltI_iff q
    rw [wrapI (by omega) (by omega), wrapU (by omega) (by omega)]; omega
  · conv => arg 2; whnf
    refine Ok.done (congrArg (V.int .u64) (?_ : wrapK .u64 a = _))
    rw [ltIK_eq] at q
    have : ¬ a < 0 := by simpa [ltI] using q
    rw [wrapU (by omega) (by omega)]; omega
theorem r153 (h : Has E 163 fn153) (h227 : E.nat.get 240 = some tSize) (h226 : E.nat.get 239 = some tMul64) {a b : Int} (ha : Mid a) (hb : Mid b) (hab : Mid (a * b)) : Gives E 163 [vn a, vn b] (vn (a * b)) := by
  refine h.gives 50 ?_
  conv => arg 2; whnf
  have s1 : tSize [vi a] = some (.int .u64 a.natAbs) := by
    show (bif midB a then _ else none) = _
    rw [midB_of ha]; rfl
  have s2 : tSize [vi b] = some (.int .u64 b.natAbs) := by
    show (bif midB b then _ else none) = _
    rw [midB_of hb]; rfl
  refine Ok.opt (callK_nat (vs := [vi a]) (v := .int .u64 a.natAbs) h227 _ s1 _ _) ?_
  conv => arg 2; whnf
  refine Ok.tt (rec_ok (show (V.same (vi b) (vi b) && true) = true by rw [show V.same (vi b) (vi b) = true from same_int _ _]; rfl)) ?_
  conv => arg 2; whnf
  refine Ok.opt (callK_nat (vs := [vi b]) (v := .int .u64 b.natAbs) h227 _ s2 _ _) ?_
  conv => arg 2; whnf
  have hp : ((a.natAbs : Int) * (b.natAbs : Int)) = ((a * b).natAbs : Int) := by rw [Int.natAbs_mul]; rfl
  obtain ⟨ha1, ha2⟩ := ha
  obtain ⟨hb1, hb2⟩ := hb
  obtain ⟨hc1, hc2⟩ := hab
  have s3 : tMul64 [.int .u64 a.natAbs, .int .u64 b.natAbs] = some (.tup [.int .u64 0, .int .u64 ((a * b).natAbs : Int)]) := by
    show (bif (leI 0 (a.natAbs : Int) && leI (a.natAbs : Int) 4611686018427387903) && (leI 0 (b.natAbs : Int) && leI (b.natAbs : Int) 4611686018427387903) then _ else none) = _
    rw [show leI 0 (a.natAbs : Int) = true from decide_eq_true (by omega), show leI (a.natAbs : Int) 4611686018427387903 = true from decide_eq_true (by omega), show leI 0 (b.natAbs : Int) = true from decide_eq_true (by omega), show leI (b.natAbs : Int) 4611686018427387903 = true from decide_eq_true (by omega)]
    rw [hp]
    have e1 : ((a * b).natAbs : Int) / 18446744073709551616 = 0 := by omega
    have e2 : ((a * b).natAbs : Int) % 18446744073709551616 = ((a * b).natAbs : Int) := by omega
    rw [e1, e2]; rfl
  refine Ok.opt (callK_nat (vs := [.int .u64 a.natAbs, .int .u64 b.natAbs]) h226 _ s3 _ _) ?_
  conv => arg 2; whnf
  refine Ok.tt (leIK_tt (by omega)) ?_
  conv => arg 2; whnf
  have hw : wrapK .i64 ((a * b).natAbs : Int) = ((a * b).natAbs : Int) := wrapS (by omega) (by omega)
  refine Ok.ite (!(ltIK a 0 == ltIK b 0)) (fun q => ?_) (fun q => ?_)
  · conv => arg 2; whnf
    refine Ok.done (congrArg vn (?_ : IntKind.i64.wrap (0 - wrapK .i64 ((a * b).natAbs : Int)) = a * b))
    rw [hw, wrapI (by omega) (by omega)]
    rcases Int.lt_or_le a 0 with p | p <;> rcases Int.lt_or_le b 0 with r | r
    · rw [ltIK_tt p, ltIK_tt r] at q; cases q
    · have := Int.mul_nonneg (a := -a) (b := b) (by omega) r
      rw [Int.neg_mul] at this; omega
    · have := Int.mul_nonneg (a := a) (b := -b) p (by omega)
      rw [Int.mul_neg] at this; omega
    · rw [ltIK_ff p, ltIK_ff r] at q; cases q
  · conv => arg 2; whnf
    refine Ok.done (congrArg vn (?_ : wrapK .i64 ((a * b).natAbs : Int) = a * b))
    rw [hw]
    rcases Int.lt_or_le a 0 with p | p <;> rcases Int.lt_or_le b 0 with r | r
    · have := Int.mul_nonneg (a := -a) (b := -b) (by omega) (by omega)
      rw [Int.neg_mul_neg] at this; omega
    · rw [ltIK_tt p, ltIK_ff r] at q; cases q
    · rw [ltIK_ff p, ltIK_tt r] at q; cases q
    · have := Int.mul_nonneg p r
      omega
theorem tdiv_le {a b : Int} : (a.tdiv b).natAbs ≤ a.natAbs := by
  rw [Int.natAbs_tdiv]; exact Nat.div_le_self _ _
theorem tmod_le {a b : Int} : (a.tmod b).natAbs ≤ a.natAbs := by
  rw [Int.natAbs_tmod]; exact Nat.mod_le _ _
theorem floor_of {a b : Int} (hp : 0 < b) : (a.tmod b < 0 → a / b = a.tdiv b - 1 ∧ a % b = a.tmod b + b) ∧ (0 ≤ a.tmod b → a / b = a.tdiv b ∧ a % b = a.tmod b) := by
  have h1 := Int.mul_tdiv_add_tmod a b
  have h2 := Int.tmod_lt_of_pos a hp
  have h3 := Int.lt_tmod_of_pos a hp
  refine ⟨fun h => ?_, fun h => ?_⟩
  · refine (Int.ediv_emod_unique hp).2 ⟨?_, by omega, by omega⟩
    rw [Int.mul_sub, Int.mul_one]; omega
  · exact (Int.ediv_emod_unique hp).2 ⟨by omega, h, h2⟩
theorem intOp_quo {a b : Int} (ha : Mid a) (hb : b ≠ 0) : intOp .quo .i64 a b = some (vi (a.tdiv b)) := by
  have := tdiv_le (a := a) (b := b)
  obtain ⟨ha1, ha2⟩ := ha
  unfold intOp
  simp only [beq_iff_eq, hb, if_false, cond_eq_ite, vi]
  rw [wrapI (n := a.tdiv b) (by omega) (by omega)]
theorem intOp_rem {a b : Int} (ha : Mid a) (hb : b ≠ 0) : intOp .rem .i64 a b = some (vi (a.tmod b)) := by
  have := tmod_le (a := a) (b := b)
  obtain ⟨ha1, ha2⟩ := ha
  unfold intOp
  simp only [beq_iff_eq, hb, if_false, cond_eq_ite, vi]
  try rw [wrapI (n := a.tmod b) (by omega) (by omega)]
theorem r150 (h : Has E 161 fn150) {a b : Int} (ha : Mid a) (hb : Mid b) (hp : 0 < b) : Gives E 161 [vn a, vn b] (.tup [vn (a / b), vn (a % b)]) := by
  have o1 := intOp_quo ha (b := b) (by omega)
  have o2 := intOp_rem ha (b := b) (by omega)
  have l1 := tdiv_le (a := a) (b := b)
  have l2 := tmod_le (a := a) (b := b)
  obtain ⟨f1, f2⟩ := floor_of (a := a) hp
  obtain ⟨ha1, ha2⟩ := ha
  obtain ⟨hb1, hb2⟩ := hb
  refine h.gives 50 ?_
  conv => arg 2; whnf
  refine Ok.tt (show Bool.rec true false (eqIK a (-9223372036854775808)) = true by rw [eqIK_ff (by omega)]) ?_
  conv => arg 2; whnf
  refine Ok.opt (v := vi (a.tdiv b)) o1 ?_
  conv => arg 2; whnf
  refine Ok.opt (v := vi (a.tmod b)) o2 ?_
  conv => arg 2; whnf
  refine Ok.ite (ltIK (a.tmod b) 0) (fun q => ?_) (fun q => ?_)
  · rw [ltIK_eq] at q
    obtain ⟨e1, e2⟩ := f1 (ltI_iff q)
    conv => arg 2; whnf
    refine Ok.done ?_
    show V.tup [vn (wrapK .i64 (a.tdiv b - 1)), vn (wrapK .i64 (a.tmod b + b))] = _
    rw [wrapS (by omega) (by omega), wrapS (by omega) (by omega), e1, e2]
  · rw [ltIK_eq] at q
    obtain ⟨e1, e2⟩ := f2 (by have : ¬ a.tmod b < 0 := by simpa [ltI] using q
                              omega)
    conv => arg 2; whnf
    refine Ok.done ?_
    show V.tup [vn (a.tdiv b), vn (a.tmod b)] = _
    rw [e1, e2]
theorem r322 (h : Has E 333 fn322) (h149 : E.nat.get 160 = some tSign) (h157 : E.nat.get 167 = some tNeg) (h150 : E.nat.get 161 = some tDivMod) {a b : Int} (ha : Mid a) (hb : Mid b) (hz : b ≠ 0) : Gives E 333 [vn a, vn b] (vn (quo a b)) := by
  refine h.gives 50 ?_
  conv => arg 2; whnf
  refine Ok.opt (callK_nat (vs := [vn b]) (v := vi (sgn b)) h149 _ (t1_at hb) _ _) ?_
  conv => arg 2; whnf
  have hs : ltIK (sgn b) 0 = ltI b 0 := by
    rw [ltIK_eq]; unfold sgn ltI
    rcases Int.lt_trichotomy b 0 with p | p | p
    · simp [p]
    · simp [p]
    · have : ¬ b < 0 := by omega
      simp [p, this]
  refine Ok.ite (ltIK (sgn b) 0) (fun q => ?_) (fun q => ?_)
  · rw [hs] at q
    have hq := ltI_iff q
    have ma : Mid (-a) := ⟨by have := ha.2; omega, by have := ha.1; omega⟩
    have mb : Mid (-b) := ⟨by have := hb.2; omega, by have := hb.1; omega⟩
    conv => arg 2; whnf
    refine Ok.opt (callK_nat (vs := [vn a]) (v := vn (-a)) h157 _ (t1_at ha) _ _) ?_
    conv => arg 2; whnf
    refine Ok.tt (rec_ok (show (V.same (vn b) (vn b) && true) = true by rw [same_vn]; rfl)) ?_
    conv => arg 2; whnf
    refine Ok.opt (callK_nat (vs := [vn b]) (v := vn (-b)) h157 _ (t1_at hb) _ _) ?_
    conv => arg 2; whnf
    have hd : tDivMod [vn (-a), vn (-b)] = some (.tup [vn ((-a) / (-b)), vn ((-a) % (-b))]) := by
      refine (t2_at ma mb).trans ?_
      rw [show ltI 0 (-b) = true from decide_eq_true (by omega)]; rfl
    refine Ok.opt (callK_nat h150 _ hd _ _) ?_
    conv => arg 2; whnf
    refine Ok.done (congrArg vn (?_ : (-a) / (-b) = quo a b))
    unfold quo; rw [q]; rfl
  · rw [hs] at q
    have hq : 0 < b := by
      have : ¬ b < 0 := by simpa [ltI] using q
      omega
    conv => arg 2; whnf
    have hd : tDivMod [vn a, vn b] = some (.tup [vn (a / b), vn (a % b)]) := by
      refine (t2_at ha hb).trans ?_
      rw [show ltI 0 b = true from decide_eq_true hq]; rfl
    refine Ok.opt (callK_nat h150 _ hd _ _) ?_
    conv => arg 2; whnf
    refine Ok.done (congrArg vn (?_ : a / b = quo a b))
    unfold quo; rw [q]; rfl
theorem r80 (h : Has E 98 fn80) (a b : Int) : Gives E 98 [vf a b] (.bool (b == 1)) := by
  refine h.gives 50 ?_
  conv => arg 2; whnf
  refine Ok.done (congrArg V.bool (?_ : eqIK b 1 = (b == 1)))
  exact eqIK_eq b 1
theorem r187 (h : Has E 197 fn187) (h153 : E.nat.get 163 = some tMul) (h278 : E.nat.get 291 = some tCmp) {a b c d : Int} (ha : Mid a) (hb : Mid b) (hc : Mid c) (hd : Mid d) (had : Mid (a * d)) (hcb : Mid (c * b)) : Gives E 197 [vf a b, vf c d] (vi (cmpI (a * d) (c * b))) := by
  refine h.gives 50 ?_
  conv => arg 2; whnf
  refine Ok.opt (callK_nat (vs := [vn a, vn d]) (v := vn (a * d)) h153 _ ((t2_at ha hd).trans (outN_at had)) _ _) ?_
  conv => arg 2; whnf
  refine Ok.tt (rec_ok (show (V.same (vn c) (vn c) && (V.same (vn b) (vn b) && true)) = true by rw [same_vn, same_vn]; rfl)) ?_
  conv => arg 2; whnf
  refine Ok.opt (callK_nat (vs := [vn c, vn b]) (v := vn (c * b)) h153 _ ((t2_at hc hb).trans (outN_at hcb)) _ _) ?_
  conv => arg 2; whnf
  refine Ok.opt (callK_nat (vs := [vn (a * d), vn (c * b)]) (v := vi (cmpI (a * d) (c * b))) h278 _ (t2_at had hcb) _ _) ?_
  conv => arg 2; whnf
  exact Ok.done rfl
def mkN (n d : Int) : Int := bif ltI d 0 then -n else n
def mkD (n d : Int) : Int := bif ltI d 0 then -d else d
def low (n d : Int) : Q := bif mkD n d == 1 then (mkN n d, mkD n d) else
  (quo (mkN n d) (Int.ofNat (Nat.gcd (mkN n d).natAbs (mkD n d).natAbs)), quo (mkD n d) (Int.ofNat (Nat.gcd (mkN n d).natAbs (mkD n d).natAbs)))
def tMake := t2 fun a b => bif b == 0 then none else some (vf (low a b).1 (low a b).2)
theorem gcd_mid {a b : Int} (ha : Mid a) (hb : Mid b) (hz : b ≠ 0) : Mid (Int.ofNat (Nat.gcd a.natAbs b.natAbs)) ∧ Int.ofNat (Nat.gcd a.natAbs b.natAbs) ≠ 0 := by
  have h1 := Nat.gcd_le_right (m := a.natAbs) (n := b.natAbs) (by omega)
  have h2 := Nat.gcd_pos_of_pos_right (m := a.natAbs) (n := b.natAbs) (by omega)
  obtain ⟨hb1, hb2⟩ := hb
  generalize Nat.gcd a.natAbs b.natAbs = g at *
  have e : Int.ofNat g = (g : Int) := rfl
  rw [e]
  exact ⟨⟨by omega, by omega⟩, by omega⟩
theorem quo_at {a b : Int} (ha : Mid a) (hb : Mid b) (hz : b ≠ 0) : tQuo [vn a, vn b] = some (vn (quo a b)) := by
  refine (t2_at ha hb).trans ?_
  have : (b == 0) = false := beq_eq_false_iff_ne.2 hz
  rw [this]; rfl
theorem r220 (h : Has E 234 fn220) (h149 : E.nat.get 160 = some tSign) (h157 : E.nat.get 167 = some tNeg) (h73 : E.nat.get 91 = some tGcd) (h322 : E.nat.get 333 = some tQuo) {a b : Int} (ha : Mid a) (hb : Mid b) (hz : b ≠ 0) : Gives E 234 [vn a, vn b] (vf (low a b).1 (low a b).2) := by
  refine h.gives 50 ?_
  conv => arg 2; whnf
  refine Ok.opt (callK_nat (vs := [vn b]) (v := vi (sgn b)) h149 _ (t1_at hb) _ _) ?_
  conv => arg 2; whnf
  have hs : ltIK (sgn b) 0 = ltI b 0 := by
    rw [ltIK_eq]; unfold sgn ltI
    rcases Int.lt_trichotomy b 0 with p | p | p
    · simp [p]
    · simp [p]
    · have : ¬ b < 0 := by omega
      simp [p, this]
  refine Ok.ite (ltIK (sgn b) 0) (fun q => ?_) (fun q => ?_)
  · rw [hs] at q
    have hq := ltI_iff q
    have ma : Mid (-a) := ⟨by have := ha.2; omega, by have := ha.1; omega⟩
    have mb : Mid (-b) := ⟨by have := hb.2; omega, by have := hb.1; omega⟩
    have e1 : mkN a b = -a := by unfold mkN; rw [q]; rfl
    have e2 : mkD a b = -b := by unfold mkD; rw [q]; rfl
    conv => arg 2; whnf
    refine Ok.opt (callK_nat (vs := [vn a]) (v := vn (-a)) h157 _ (t1_at ha) _ _) ?_
    conv => arg 2; whnf
    refine Ok.tt (rec_ok (show (V.same (vn b) (vn b) && true) = true by rw [same_vn]; rfl)) ?_
    conv => arg 2; whnf
    refine Ok.opt (callK_nat (vs := [vn b]) (v := vn (-b)) h157 _ (t1_at hb) _ _) ?_
    conv => arg 2; whnf
    refine Ok.ite (eqIK (-b) 1) (fun q1 => ?_) (fun q1 => ?_)
    · conv => arg 2; whnf
      refine Ok.done (?_ : vf (-a) (-b) = _)
      rw [eqIK_eq] at q1
      unfold low; rw [e1, e2, q1]; rfl
    · rw [eqIK_eq] at q1
      have hg := gcd_mid ma mb (by omega)
      conv => arg 2; whnf
      refine Ok.opt (callK_nat (vs := [vn (-a), vn (-b)]) (v := vn (Int.ofNat (Nat.gcd (-a).natAbs (-b).natAbs))) h73 _ (t2_at ma mb) _ _) ?_
      generalize hge : Int.ofNat (Nat.gcd (-a).natAbs (-b).natAbs) = g at *
      conv => arg 2; whnf
      refine Ok.opt (callK_nat (vs := [vn (-a), vn g]) (v := vn (quo (-a) g)) h322 _ (quo_at ma hg.1 hg.2) _ _) ?_
      conv => arg 2; whnf
      refine Ok.tt (rec_ok (show (V.same (vn (-b)) (vn (-b)) && (V.same (vn g) (vn g) && true)) = true by rw [same_vn, same_vn]; rfl)) ?_
      conv => arg 2; whnf
      refine Ok.opt (callK_nat (vs := [vn (-b), vn g]) (v := vn (quo (-b) g)) h322 _ (quo_at mb hg.1 hg.2) _ _) ?_
      conv => arg 2; whnf
      refine Ok.done (?_ : vf (quo (-a) g) (quo (-b) g) = _)
      unfold low; rw [e1, e2, q1, hge]; rfl
  · rw [hs] at q
    have hq : 0 < b := by
      have : ¬ b < 0 := by simpa [ltI] using q
      omega
    have e1 : mkN a b = a := by unfold mkN; rw [q]; rfl
    have e2 : mkD a b = b := by unfold mkD; rw [q]; rfl
    conv => arg 2; whnf
    refine Ok.ite (eqIK (b) 1) (fun q1 => ?_) (fun q1 => ?_)
    · conv => arg 2; whnf
      refine Ok.done (?_ : vf (a) (b) = _)
      rw [eqIK_eq] at q1
      unfold low; rw [e1, e2, q1]; rfl
    · rw [eqIK_eq] at q1
      have hg := gcd_mid ha hb (by omega)
      conv => arg 2; whnf
      refine Ok.opt (callK_nat (vs := [vn (a), vn (b)]) (v := vn (Int.ofNat (Nat.gcd (a).natAbs (b).natAbs))) h73 _ (t2_at ha hb) _ _) ?_
      generalize hge : Int.ofNat (Nat.gcd (a).natAbs (b).natAbs) = g at *
      conv => arg 2; whnf
      refine Ok.opt (callK_nat (vs := [vn (a), vn g]) (v := vn (quo (a) g)) h322 _ (quo_at ha hg.1 hg.2) _ _) ?_
      conv => arg 2; whnf
      refine Ok.tt (rec_ok (show (V.same (vn (b)) (vn (b)) && (V.same (vn g) (vn g) && true)) = true by rw [same_vn, same_vn]; rfl)) ?_
      conv => arg 2; whnf
      refine Ok.opt (callK_nat (vs := [vn (b), vn g]) (v := vn (quo (b) g)) h322 _ (quo_at hb hg.1 hg.2) _ _) ?_
      conv => arg 2; whnf
      refine Ok.done (?_ : vf (quo (a) g) (quo (b) g) = _)
      unfold low; rw [e1, e2, q1, hge]; rfl
def Sm (a : Int) : Prop := -1073741824 ≤ a ∧ a ≤ 1073741824
theorem Sm.mid {a : Int} (h : Sm a) : Mid a := ⟨by have := h.1; omega, by have := h.2; omega⟩
theorem mul_le {a b : Int} (ha : Sm a) (hb : Sm b) : -1152921504606846976 ≤ a * b ∧ a * b ≤ 1152921504606846976 := by
  have h1 : (a * b).natAbs ≤ 1073741824 * 1073741824 := by
    rw [Int.natAbs_mul]
    exact Nat.mul_le_mul (by have := ha.1; have := ha.2; omega) (by have := hb.1; have := hb.2; omega)
  omega
theorem mul_mid {a b : Int} (ha : Sm a) (hb : Sm b) : Mid (a * b) := ⟨by have := (mul_le ha hb).1; omega, by have := (mul_le ha hb).2; omega⟩
theorem make_at {a b : Int} (ha : Mid a) (hb : Mid b) (hz : b ≠ 0) : tMake [vn a, vn b] = some (vf (low a b).1 (low a b).2) := by
  refine (t2_at ha hb).trans ?_
  have : (b == 0) = false := beq_eq_false_iff_ne.2 hz
  rw [this]; rfl
theorem r142 (h : Has E 153 fn142) (h153 : E.nat.get 163 = some tMul) (h220 : E.nat.get 234 = some tMake) {a b c d : Int} (ha : Sm a) (hb : Sm b) (hc : Sm c) (hd : Sm d) (hz : b * d ≠ 0) : Gives E 153 [vf a b, vf c d] (vf (low (a * c) (b * d)).1 (low (a * c) (b * d)).2) := by
  refine h.gives 50 ?_
  conv => arg 2; whnf
  refine Ok.opt (callK_nat (vs := [vn a, vn c]) (v := vn (a * c)) h153 _ ((t2_at ha.mid hc.mid).trans (outN_at (mul_mid ha hc))) _ _) ?_
  conv => arg 2; whnf
  refine Ok.tt (rec_ok (show (V.same (vn b) (vn b) && (V.same (vn d) (vn d) && true)) = true by rw [same_vn, same_vn]; rfl)) ?_
  conv => arg 2; whnf
  refine Ok.opt (callK_nat (vs := [vn b, vn d]) (v := vn (b * d)) h153 _ ((t2_at hb.mid hd.mid).trans (outN_at (mul_mid hb hd))) _ _) ?_
  conv => arg 2; whnf
  refine Ok.opt (callK_nat (vs := [vn (a * c), vn (b * d)]) h220 _ (make_at (mul_mid ha hc) (mul_mid hb hd) hz) _ _) ?_
  conv => arg 2; whnf
  exact Ok.done rfl
def tIsWhole : List V → Option V
  | [.agg [.int .i64 _, .nils, .int .i64 b, .nils]] => some (.bool (b == 1))
  | _ => none
def addQ' (a b c d : Int) : Q := bif b == 1 && d == 1 then (a + c, 1) else low (a * d + c * b) (b * d)
theorem r140 (h : Has E 151 fn140) (h80 : E.nat.get 98 = some tIsWhole) (h153 : E.nat.get 163 = some tMul) (h156 : E.nat.get 166 = some tAdd) (h76 : E.nat.get 94 = some tWhole) (h220 : E.nat.get 234 = some tMake) {a b c d : Int} (ha : Sm a) (hb : Sm b) (hc : Sm c) (hd : Sm d) (hz : b * d ≠ 0) :
    Gives E 151 [vf a b, vf c d] (vf (addQ' a b c d).1 (addQ' a b c d).2) := by
  have hs : Mid (a * d + c * b) := ⟨by have := (mul_le ha hd).1; have := (mul_le hc hb).1; omega, by have := (mul_le ha hd).2; have := (mul_le hc hb).2; omega⟩
  have hac : Mid (a + c) := ⟨by have := ha.1; have := hc.1; omega, by have := ha.2; have := hc.2; omega⟩
  refine h.gives 50 ?_
  conv => arg 2; whnf
  refine Ok.opt (callK_nat (vs := [vf a b]) (v := .bool (b == 1)) h80 _ rfl _ _) ?_
  generalize hq1 : (b == 1) = q1
  cases q1
  · conv => arg 2; whnf
    refine Ok.opt (callK_nat (vs := [vn a, vn d]) (v := vn (a * d)) h153 _ ((t2_at ha.mid hd.mid).trans (outN_at (mul_mid ha hd))) _ _) ?_
    conv => arg 2; whnf
    refine Ok.tt (rec_ok (show (V.same (vn c) (vn c) && (V.same (vn b) (vn b) && (V.same (vn b) (vn b) && (V.same (vn d) (vn d) && true)))) = true by rw [same_vn, same_vn, same_vn]; rfl)) ?_
    conv => arg 2; whnf
    refine Ok.opt (callK_nat (vs := [vn c, vn b]) (v := vn (c * b)) h153 _ ((t2_at hc.mid hb.mid).trans (outN_at (mul_mid hc hb))) _ _) ?_
    conv => arg 2; whnf
    refine Ok.tt (rec_ok (show (V.same (vn b) (vn b) && (V.same (vn d) (vn d) && true)) = true by rw [same_vn, same_vn]; rfl)) ?_
    conv => arg 2; whnf
    refine Ok.opt (callK_nat (vs := [vn (a * d), vn (c * b)]) (v := vn (a * d + c * b)) h156 _ ((t2_at (mul_mid ha hd) (mul_mid hc hb)).trans (outN_at hs)) _ _) ?_
    conv => arg 2; whnf
    refine Ok.tt (rec_ok (show (V.same (vn b) (vn b) && (V.same (vn d) (vn d) && true)) = true by rw [same_vn, same_vn]; rfl)) ?_
    conv => arg 2; whnf
    refine Ok.opt (callK_nat (vs := [vn b, vn d]) (v := vn (b * d)) h153 _ ((t2_at hb.mid hd.mid).trans (outN_at (mul_mid hb hd))) _ _) ?_
    conv => arg 2; whnf
    refine Ok.opt (callK_nat (vs := [vn (a * d + c * b), vn (b * d)]) h220 _ (make_at hs (mul_mid hb hd) hz) _ _) ?_
    conv => arg 2; whnf
    refine Ok.done (?_ : vf _ _ = _)
    unfold addQ'; rw [hq1]; rfl
  · conv => arg 2; whnf
    refine Ok.opt (callK_nat (vs := [vf c d]) (v := .bool (d == 1)) h80 _ rfl _ _) ?_
    generalize hq2 : (d == 1) = q2
    cases q2
    · conv => arg 2; whnf
      refine Ok.opt (callK_nat (vs := [vn a, vn d]) (v := vn (a * d)) h153 _ ((t2_at ha.mid hd.mid).trans (outN_at (mul_mid ha hd))) _ _) ?_
      conv => arg 2; whnf
      refine Ok.tt (rec_ok (show (V.same (vn c) (vn c) && (V.same (vn b) (vn b) && (V.same (vn b) (vn b) && (V.same (vn d) (vn d) && true)))) = true by rw [same_vn, same_vn, same_vn]; rfl)) ?_
      conv => arg 2; whnf
      refine Ok.opt (callK_nat (vs := [vn c, vn b]) (v := vn (c * b)) h153 _ ((t2_at hc.mid hb.mid).trans (outN_at (mul_mid hc hb))) _ _) ?_
      conv => arg 2; whnf
      refine Ok.tt (rec_ok (show (V.same (vn b) (vn b) && (V.same (vn d) (vn d) && true)) = true by rw [same_vn, same_vn]; rfl)) ?_
      conv => arg 2; whnf
      refine Ok.opt (callK_nat (vs := [vn (a * d), vn (c * b)]) (v := vn (a * d + c * b)) h156 _ ((t2_at (mul_mid ha hd) (mul_mid hc hb)).trans (outN_at hs)) _ _) ?_
      conv => arg 2; whnf
      refine Ok.tt (rec_ok (show (V.same (vn b) (vn b) && (V.same (vn d) (vn d) && true)) = true by rw [same_vn, same_vn]; rfl)) ?_
      conv => arg 2; whnf
      refine Ok.opt (callK_nat (vs := [vn b, vn d]) (v := vn (b * d)) h153 _ ((t2_at hb.mid hd.mid).trans (outN_at (mul_mid hb hd))) _ _) ?_
      conv => arg 2; whnf
      refine Ok.opt (callK_nat (vs := [vn (a * d + c * b), vn (b * d)]) h220 _ (make_at hs (mul_mid hb hd) hz) _ _) ?_
      conv => arg 2; whnf
      refine Ok.done (?_ : vf _ _ = _)
      unfold addQ'; rw [hq1, hq2]; rfl
    · conv => arg 2; whnf
      refine Ok.opt (callK_nat (vs := [vn a, vn c]) (v := vn (a + c)) h156 _ ((t2_at ha.mid hc.mid).trans (outN_at hac)) _ _) ?_
      conv => arg 2; whnf
      refine Ok.opt (callK_nat (vs := [vn (a + c)]) (v := vf (a + c) 1) h76 _ (t1_at hac) _ _) ?_
      conv => arg 2; whnf
      refine Ok.done (?_ : vf _ _ = _)
      unfold addQ'; rw [hq1, hq2]; rfl
end
end Go.Fm
namespace Go.Fm
section
variable {E : Env'} {Q : V → Mem → Nat → Prop}
attribute [local irreducible] callK loopK getM putM
theorem gcd_step (h149 : E.nat.get 160 = some tSign) (h150 : E.nat.get 161 = some tDivMod) {fu k : Nat} {kN kR : KKN} {kE : Nat → KKN} {t : Tr 3 V} {m : Mem} {n : Nat} {fi : List FI} {a b : Int} (ha : Mid a) (hb : Mid b) (hp : 0 < b)
  (t2 : t.get 2 = some (.ptr 0 0)) (t3 : t.get 3 = some (.ptr 1 0)) (m0 : m.get 0 = some (.cells [.int .i64 a, .nils] 105)) (m1 : m.get 1 = some (.cells [.int .i64 b, .nils] 105)) (hn : n + 2 ≤ 262143) (hn0 : 3 ≤ n)
  (next : ∀ t' m', t'.get 2 = some (.ptr 0 0) → t'.get 3 = some (.ptr 1 0) → t'.get 4 = t.get 4 → m'.get 2 = m.get 2 → m'.get 0 = some (.cells [.int .i64 b, .nils] 105) → m'.get 1 = some (.cells [.int .i64 (a % b), .nils] 105) → Ok Q (loopK (comp E bd73).run (fu + 1) (callK E (fu + 1)) kN kE kR k t' m' (n + 2) fi)) :
  Ok Q (loopK (comp E bd73).run (fu + 1) (callK E (fu + 1)) kN kE kR (k + 1) t m n fi) := by
 rw [loopK_succ]
 obtain ⟨x0, x1, ⟨⟨z0, z1, z2, z3, z4, z5, z6, z7⟩, y1, y2, y3, y4, y5, y6, y7⟩, ⟨⟨w0, w1, w2, w3, w4, w5, w6, w7⟩, v1, v2, v3, v4, v5, v6, v7⟩, x4, x5, x6, x7⟩ := (t : N8 (N8 (N8 (Option V))))
 change z0 = some (.ptr 0 0) at t2
 change w0 = some (.ptr 1 0) at t3
 subst t2; subst t3
 conv => arg 2; whnf
 refine Ok.getM m1 (by omega) ?_
 conv => arg 2; whnf
 refine Ok.opt (callK_nat (vs := [vn b]) (v := vi (sgn b)) h149 _ (t1_at hb) _ _) ?_
 conv => arg 2; whnf
 refine Ok.tt (show Bool.rec true false (eqIK (sgn b) 0) = true by
  have : sgn b = 1 := by unfold sgn; rw [show ltI b 0 = false from decide_eq_false (by omega), show ltI 0 b = true from decide_eq_true hp]; rfl
  rw [this]; rfl) ?_
 conv => arg 2; whnf
 refine Ok.getM m0 (by omega) ?_
 conv => arg 2; whnf
 refine Ok.getM m1 (by omega) ?_
 conv => arg 2; whnf
 have hd : tDivMod [vn a, vn b] = some (.tup [vn (a / b), vn (a % b)]) := by
  refine (t2_at ha hb).trans ?_
  rw [show ltI 0 b = true from decide_eq_true hp]; rfl
 refine Ok.opt (callK_nat h150 _ hd _ _) ?_
 conv => arg 2; whnf
 refine Ok.putM (by omega) (fun mA hA => ?_)
 conv => arg 2; whnf
 refine Ok.putM (by omega) (fun mB hB => ?_)
 conv => arg 2; whnf
 refine Ok.getM (b := .cells [vi 0, .nils] 105) (by rw [hB, if_neg (by omega), hA, if_pos rfl]) (by omega) ?_
 conv => arg 2; whnf
 refine Ok.putM (by omega) (fun mC hC => ?_)
 conv => arg 2; whnf
 refine Ok.getM (b := .cells [vi 0, .nils] 105) (by rw [hC, if_neg (by omega), hB, if_pos (by omega)]) (by omega) ?_
 conv => arg 2; whnf
 refine Ok.putM (by omega) (fun mD hD => ?_)
 conv => arg 2; whnf
 have d0 : mD.get 0 = some (.cells [.int .i64 a, .nils] 105) := by rw [hD, if_neg (by omega), hC, if_neg (by omega), hB, if_neg (by omega), hA, if_neg (by omega)]; exact m0
 have d1 : mD.get 1 = some (.cells [.int .i64 b, .nils] 105) := by rw [hD, if_neg (by omega), hC, if_neg (by omega), hB, if_neg (by omega), hA, if_neg (by omega)]; exact m1
 have d6 : mD.get (n + 1) = some (.cells [.int .i64 (a % b), .nils] 105) := by rw [hD, if_pos rfl]
 refine Ok.getM d1 (by omega) ?_
 conv => arg 2; whnf
 refine Ok.getM d6 (by omega) ?_
 conv => arg 2; whnf
 refine Ok.getM d0 (by omega) ?_
 conv => arg 2; whnf
 refine Ok.putM (by omega) (fun mF hF => ?_)
 conv => arg 2; whnf
 refine Ok.tt (rec_ok (rec_load rfl (v := vn (a % b)) ?c2 rfl (same_vn _) rfl)) ?_
 case c2 =>
  conv => arg 2; whnf
  refine Ok.getM (b := .cells [.int .i64 (a % b), .nils] 105) (by rw [hF, if_neg (by omega)]; exact d6) (by omega) ?_
  conv => arg 2; whnf
  exact Ok.done rfl
 conv => arg 2; whnf
 refine Ok.getM (b := .cells [.int .i64 b, .nils] 105) (by rw [hF, if_neg (by omega)]; exact d1) (by omega) ?_
 conv => arg 2; whnf
 refine Ok.putM (by omega) (fun mG hG => ?_)
 conv => arg 2; whnf
 refine next _ _ rfl rfl rfl ?_ ?_ ?_
 ·rw [hG, if_neg (by omega), hF, if_neg (by omega), hD, if_neg (by omega), hC, if_neg (by omega), hB, if_neg (by omega), hA, if_neg (by omega)]
 ·rw [hG, if_neg (by omega), hF, if_pos rfl]
 ·rw [hG, if_pos rfl]
theorem gcd_exit (h149 : E.nat.get 160 = some tSign) {fu k : Nat} {kN kR : KKN} {kE : Nat → KKN} {t : Tr 3 V} {m : Mem} {n : Nat} {fi : List FI}
  (t2 : t.get 2 = some (.ptr 0 0)) (t3 : t.get 3 = some (.ptr 1 0)) (m1 : m.get 1 = some (.cells [.int .i64 0, .nils] 105))
  (next : ∀ t', t'.get 2 = some (.ptr 0 0) → t'.get 4 = t.get 4 → Ok Q (kE 0 t' m n fi)) :
  Ok Q (loopK (comp E bd73).run (fu + 1) (callK E (fu + 1)) kN kE kR (k + 1) t m n fi) := by
 rw [loopK_succ]
 obtain ⟨x0, x1, ⟨⟨z0, z1, z2, z3, z4, z5, z6, z7⟩, y1, y2, y3, y4, y5, y6, y7⟩, ⟨⟨w0, w1, w2, w3, w4, w5, w6, w7⟩, v1, v2, v3, v4, v5, v6, v7⟩, x4, x5, x6, x7⟩ := (t : N8 (N8 (N8 (Option V))))
 change z0 = some (.ptr 0 0) at t2
 change w0 = some (.ptr 1 0) at t3
 subst t2; subst t3
 conv => arg 2; whnf
 refine Ok.getM m1 (by omega) ?_
 conv => arg 2; whnf
 refine Ok.opt (callK_nat (vs := [vn 0]) (v := vi 0) h149 _ rfl _ _) ?_
 refine next _ rfl rfl
theorem gcd_loop (h149 : E.nat.get 160 = some tSign) (h150 : E.nat.get 161 = some tDivMod) {fu : Nat} {kN kR : KKN} {kE : Nat → KKN} {fi : List FI} : ∀ (j k x y : Nat) (t : Tr 3 V) (m : Mem) (n : Nat),
  j < k → Mid (x : Int) → y ≤ x → x * y < 2 ^ j → n + 2 * j + 2 ≤ 262143 → 3 ≤ n → t.get 2 = some (.ptr 0 0) → t.get 3 = some (.ptr 1 0) → m.get 0 = some (.cells [.int .i64 x, .nils] 105) → m.get 1 = some (.cells [.int .i64 y, .nils] 105) →
  (∀ t' m' n', t'.get 2 = some (.ptr 0 0) → t'.get 4 = t.get 4 → m'.get 2 = m.get 2 → m'.get 0 = some (.cells [.int .i64 (Nat.gcd x y), .nils] 105) → Ok Q (kE 0 t' m' n' fi)) →
  Ok Q (loopK (comp E bd73).run (fu + 1) (callK E (fu + 1)) kN kE kR k t m n fi) := by
 intro j
 induction j with
 | zero =>
  intro k x y t m n hk hx hyx hxy hn hn0 t2 t3 m0 m1 next
  obtain ⟨k, rfl⟩ : ∃ k', k = k' + 1 := ⟨k - 1, by omega⟩
  have hy : y = 0 := by
   rcases Nat.eq_zero_or_pos y with q | q
   ·exact q
   ·have := Nat.mul_pos (show 0 < x by omega) q; omega
  subst hy
  refine gcd_exit h149 t2 t3 m1 fun t' a1 a2 => next t' m n a1 a2 rfl ?_
  rw [Nat.gcd_zero_right]; exact m0
 | succ j ih =>
  intro k x y t m n hk hx hyx hxy hn hn0 t2 t3 m0 m1 next
  obtain ⟨k, rfl⟩ : ∃ k', k = k' + 1 := ⟨k - 1, by omega⟩
  rcases Nat.eq_zero_or_pos y with q | q
  ·subst q
   refine gcd_exit h149 t2 t3 m1 fun t' a1 a2 => next t' m n a1 a2 rfl ?_
   rw [Nat.gcd_zero_right]; exact m0
  ·have hy : Mid (y : Int) := ⟨by have := hx.1; omega, by have := hx.2; omega⟩
   refine gcd_step h149 h150 hx hy (by omega) t2 t3 m0 m1 (by omega) hn0 fun t' m' a2 a3 a4 b2 b0 b1 => ?_
   have e : (x : Int) % (y : Int) = ((x % y : Nat) : Int) := by exact (Int.natCast_emod x y).symm
   rw [e] at b1
   have hlt := Nat.mod_lt x q
   have hq : y * (x / y) + x % y = x := Nat.div_add_mod x y
   have hd : 1 ≤ x / y := (Nat.one_le_div_iff q).2 hyx
   have h1 : y * 1 ≤ y * (x / y) := Nat.mul_le_mul_left _ hd
   have h2 : 2 * (x % y) < x := by omega
   have h3 : 2 * (y * (x % y)) < 2 ^ (j + 1) := by
    have : y * (2 * (x % y)) ≤ y * x := Nat.mul_le_mul_left _ (by omega)
    rw [Nat.mul_comm x y] at hxy
    rw [Nat.mul_left_comm] ; omega
   rw [Nat.pow_succ] at h3
   refine ih k y (x % y) t' m' (n + 2) (by omega) hy (by omega) (by omega) (by omega) (by omega) a2 a3 b0 b1 fun t'' m'' n'' c2 c4 c3 c0 => next t'' m'' n'' c2 (c4.trans a4) (c3.trans b2) ?_
   rw [c0, Nat.gcd_comm x y, Nat.gcd_rec y x, Nat.gcd_comm]
end
section
variable {E : Env'}
attribute [local irreducible] callK loopK getM putM
theorem r73 (h : Has E 91 fn73) (h148 : E.nat.get 159 = some tAbs) (h149 : E.nat.get 160 = some tSign) (h150 : E.nat.get 161 = some tDivMod) {a b : Int} (ha : Mid a) (hb : Mid b) : Gives E 91 [vn a, vn b] (vn (Int.ofNat (Nat.gcd a.natAbs b.natAbs))) := by
 refine h.gives 200 ?_
 conv => arg 2; whnf
 refine Ok.putM (by omega) (fun mA hA => ?_)
 conv => arg 2; whnf
 refine Ok.putM (by omega) (fun mB hB => ?_)
 conv => arg 2; whnf
 refine Ok.putM (by omega) (fun mC hC => ?_)
 conv => arg 2; whnf
 have c0 : mC.get 0 = some (.cells [.int .i64 a, .nils] 105) := by rw [hC, if_neg (by omega), hB, if_neg (by omega), hA, if_pos rfl]
 have c1 : mC.get 1 = some (.cells [.int .i64 b, .nils] 105) := by rw [hC, if_neg (by omega), hB, if_pos rfl]
 have c2 : mC.get 2 = some (.cells [.int .i64 0, .nils] 105) := by rw [hC, if_pos rfl]; rfl
 refine Ok.getM c0 (by omega) ?_
 conv => arg 2; whnf
 refine Ok.getM c1 (by omega) ?_
 conv => arg 2; whnf
 refine Ok.opt (callK_nat (vs := [vn a]) (v := vn a.natAbs) h148 _ (t1_at ha) _ _) ?_
 conv => arg 2; whnf
 refine Ok.tt (rec_ok (rec_load rfl (v := vn b) ?d1 rfl (same_vn _) rfl)) ?_
 case d1 =>
  conv => arg 2; whnf
  refine Ok.getM c1 (by omega) ?_
  conv => arg 2; whnf
  exact Ok.done rfl
 conv => arg 2; whnf
 refine Ok.opt (callK_nat (vs := [vn b]) (v := vn b.natAbs) h148 _ (t1_at hb) _ _) ?_
 conv => arg 2; whnf
 refine Ok.getM c0 (by omega) ?_
 conv => arg 2; whnf
 refine Ok.putM (by omega) (fun mD hD => ?_)
 conv => arg 2; whnf
 refine Ok.getM (b := .cells [.int .i64 b, .nils] 105) (by rw [hD, if_neg (by omega)]; exact c1) (by omega) ?_
 conv => arg 2; whnf
 refine Ok.putM (by omega) (fun mF hF => ?_)
 conv => arg 2; whnf
 have f0 : mF.get 0 = some (.cells [.int .i64 (a.natAbs : Int), .nils] 105) := by rw [hF, if_neg (by omega), hD, if_pos rfl]
 have f1 : mF.get 1 = some (.cells [.int .i64 (b.natAbs : Int), .nils] 105) := by rw [hF, if_pos rfl]
 have f2 : mF.get 2 = some (.cells [.int .i64 0, .nils] 105) := by rw [hF, if_neg (by omega), hD, if_neg (by omega)]; exact c2
 have na : a.natAbs ≤ 4611686018427387903 := by have := ha.1; have := ha.2; omega
 have nb : b.natAbs ≤ 4611686018427387903 := by have := hb.1; have := hb.2; omega
 have ma : Mid (a.natAbs : Int) := ⟨by omega, by omega⟩
 have mb : Mid (b.natAbs : Int) := ⟨by omega, by omega⟩
 have hprod : b.natAbs * a.natAbs < 2 ^ 124 := Nat.lt_of_le_of_lt (Nat.mul_le_mul nb na) (by decide)
 rcases Nat.le_total b.natAbs a.natAbs with hle | hle
 ·refine gcd_loop h149 h150 (fu := 199) 124 200 a.natAbs b.natAbs _ _ _ (by omega) ma hle (by rw [Nat.mul_comm]; exact hprod) (by omega) (by omega) rfl rfl f0 f1 (fun t' m' n' a2 a4 b2 b0 => ?_)
  replace a4 := a4.trans (rfl : _ = some (V.ptr 2 0))
  obtain ⟨x0, x1, ⟨⟨z0, z1, z2, z3, z4, z5, z6, z7⟩, y1, y2, y3, y4, y5, y6, y7⟩, x3, ⟨⟨w0, w1, w2, w3, w4, w5, w6, w7⟩, v1, v2, v3, v4, v5, v6, v7⟩, x5, x6, x7⟩ := (t' : N8 (N8 (N8 (Option V))))
  change z0 = some (.ptr 0 0) at a2
  change w0 = some (.ptr 2 0) at a4
  subst a2; subst a4
  conv => arg 2; whnf
  refine Ok.getM b0 (by omega) ?_
  conv => arg 2; whnf
  refine Ok.getM (b2.trans f2) (by omega) ?_
  conv => arg 2; whnf
  refine Ok.putM (by omega) (fun mZ hZ => ?_)
  conv => arg 2; whnf
  refine Ok.getM (b := .cells [.int .i64 ((Nat.gcd a.natAbs b.natAbs : Nat) : Int), .nils] 105) (by rw [hZ, if_pos rfl]) (by omega) ?_
  conv => arg 2; whnf
  exact Ok.done rfl
 ·rcases Nat.eq_zero_or_pos b.natAbs with hz | hz
  ·have ez : a.natAbs = 0 := by omega
   refine gcd_loop h149 h150 (fu := 199) 124 200 a.natAbs b.natAbs _ _ _ (by omega) ma (by omega) (by rw [Nat.mul_comm]; exact hprod) (by omega) (by omega) rfl rfl f0 f1 (fun t' m' n' a2 a4 b2 b0 => ?_)
   replace a4 := a4.trans (rfl : _ = some (V.ptr 2 0))
   obtain ⟨x0, x1, ⟨⟨z0, z1, z2, z3, z4, z5, z6, z7⟩, y1, y2, y3, y4, y5, y6, y7⟩, x3, ⟨⟨w0, w1, w2, w3, w4, w5, w6, w7⟩, v1, v2, v3, v4, v5, v6, v7⟩, x5, x6, x7⟩ := (t' : N8 (N8 (N8 (Option V))))
   change z0 = some (.ptr 0 0) at a2
   change w0 = some (.ptr 2 0) at a4
   subst a2; subst a4
   conv => arg 2; whnf
   refine Ok.getM b0 (by omega) ?_
   conv => arg 2; whnf
   refine Ok.getM (b2.trans f2) (by omega) ?_
   conv => arg 2; whnf
   refine Ok.putM (by omega) (fun mZ hZ => ?_)
   conv => arg 2; whnf
   refine Ok.getM (b := .cells [.int .i64 ((Nat.gcd a.natAbs b.natAbs : Nat) : Int), .nils] 105) (by rw [hZ, if_pos rfl]) (by omega) ?_
   conv => arg 2; whnf
   exact Ok.done rfl
  ·refine gcd_step h149 h150 (fu := 199) (k := 199) ma mb (by omega) rfl rfl f0 f1 (by omega) (by omega) fun t1 m1 a2 a3 a4' b2' b0 b1 => ?_
   rcases Nat.lt_or_ge a.natAbs b.natAbs with hlt | hge
   ·have e : (a.natAbs : Int) % (b.natAbs : Int) = (a.natAbs : Int) := Int.emod_eq_of_lt (by omega) (by omega)
    rw [e] at b1
    refine gcd_loop h149 h150 (fu := 199) 124 199 b.natAbs a.natAbs _ _ _ (by omega) mb hle hprod (by omega) (by omega) a2 a3 b0 b1 (fun t' m' n' a2 a4 b2 b0 => ?_)
    rw [Nat.gcd_comm] at b0
    replace a4 := a4.trans a4'
    replace b2 := b2.trans b2'
    replace a4 := a4.trans (rfl : _ = some (V.ptr 2 0))
    obtain ⟨x0, x1, ⟨⟨z0, z1, z2, z3, z4, z5, z6, z7⟩, y1, y2, y3, y4, y5, y6, y7⟩, x3, ⟨⟨w0, w1, w2, w3, w4, w5, w6, w7⟩, v1, v2, v3, v4, v5, v6, v7⟩, x5, x6, x7⟩ := (t' : N8 (N8 (N8 (Option V))))
    change z0 = some (.ptr 0 0) at a2
    change w0 = some (.ptr 2 0) at a4
    subst a2; subst a4
    conv => arg 2; whnf
    refine Ok.getM b0 (by omega) ?_
    conv => arg 2; whnf
    refine Ok.getM (b2.trans f2) (by omega) ?_
    conv => arg 2; whnf
    refine Ok.putM (by omega) (fun mZ hZ => ?_)
    conv => arg 2; whnf
    refine Ok.getM (b := .cells [.int .i64 ((Nat.gcd a.natAbs b.natAbs : Nat) : Int), .nils] 105) (by rw [hZ, if_pos rfl]) (by omega) ?_
    conv => arg 2; whnf
    exact Ok.done rfl
   ·have ee : a.natAbs = b.natAbs := by omega
    have e : (a.natAbs : Int) % (b.natAbs : Int) = ((0 : Nat) : Int) := by rw [ee, Int.emod_self]; rfl
    rw [e] at b1
    refine gcd_loop h149 h150 (fu := 199) 124 199 b.natAbs 0 _ _ _ (by omega) mb (by omega) (by simp) (by omega) (by omega) a2 a3 b0 b1 (fun t' m' n' a2 a4 b2 b0 => ?_)
    rw [show Nat.gcd b.natAbs 0 = Nat.gcd a.natAbs b.natAbs by rw [ee, Nat.gcd_self, Nat.gcd_zero_right]] at b0
    replace a4 := a4.trans a4'
    replace b2 := b2.trans b2'
    replace a4 := a4.trans (rfl : _ = some (V.ptr 2 0))
    obtain ⟨x0, x1, ⟨⟨z0, z1, z2, z3, z4, z5, z6, z7⟩, y1, y2, y3, y4, y5, y6, y7⟩, x3, ⟨⟨w0, w1, w2, w3, w4, w5, w6, w7⟩, v1, v2, v3, v4, v5, v6, v7⟩, x5, x6, x7⟩ := (t' : N8 (N8 (N8 (Option V))))
    change z0 = some (.ptr 0 0) at a2
    change w0 = some (.ptr 2 0) at a4
    subst a2; subst a4
    conv => arg 2; whnf
    refine Ok.getM b0 (by omega) ?_
    conv => arg 2; whnf
    refine Ok.getM (b2.trans f2) (by omega) ?_
    conv => arg 2; whnf
    refine Ok.putM (by omega) (fun mZ hZ => ?_)
    conv => arg 2; whnf
    refine Ok.getM (b := .cells [.int .i64 ((Nat.gcd a.natAbs b.natAbs : Nat) : Int), .nils] 105) (by rw [hZ, if_pos rfl]) (by omega) ?_
    conv => arg 2; whnf
    exact Ok.done rfl
end
end Go.Fm
namespace Go.Fm
def fn144 : RFn := ⟨6,qo [qm 1 (.box 0 107),qv 2 (qI 0)] (qo [qf 3 0 1,qm 4 (.load 2 true 3),qc 5 160 [4],qv 2 5] .ret),[(.t 2)]⟩
def fn138 : RFn := ⟨9,qo [qm 1 (.box 0 107),qm 2 (.alloc [vi 0,.nils,vi 0,.nils] 107)] (.seq (.drawn [⟨[⟨0,qf 3 0 1⟩,⟨1,qm 4 (.load 2 true 3)⟩,⟨3,qf 6 2 1⟩,⟨4,qm 7 (.load 2 true 6)⟩],[],some ⟨2,qc 5 167 [4]⟩,[⟨4,qm 7 (.load 2 true 6)⟩]⟩,⟨[⟨5,q 8 (.build [vi 0,.nils,vi 0,.nils] [(0,2,5),(2,2,7)])⟩],[],some ⟨6,qw (.store 4 2 8)⟩,[]⟩,⟨[],[],none,[]⟩]) .ret),[(.c 2 4 true)]⟩
def fn141 : RFn := ⟨9,qo [qm 2 (.box 0 107),qm 3 (.box 1 107),qm 4 (.alloc [vi 0,.nils,vi 0,.nils] 107)] (.seq (.drawn [⟨[⟨0,qm 5 (.load 4 true 2)⟩,⟨1,qm 6 (.load 4 true 3)⟩],[],some ⟨2,qc 7 149 [6]⟩,[⟨0,qm 5 (.load 4 true 2)⟩]⟩,⟨[],[],some ⟨3,qc 8 151 [5,7]⟩,[]⟩,⟨[],[],some ⟨4,qw (.store 4 4 8)⟩,[]⟩,⟨[],[],none,[]⟩]) .ret),[(.c 4 4 true)]⟩
def fn221 : RFn := ⟨8,qo [qm 1 (.box 0 107),qm 2 (.alloc [vi 0,.nils,vi 0,.nils] 107)] (qo [qf 3 2 1,qm 4 (.load 2 true 3),qf 5 0 1,qm 6 (.load 2 true 5),qc 7 234 [4,6],qw (.store 4 2 7)] .ret),[(.c 2 4 true)]⟩
def fn145 : RFn := ⟨9,qo [qm 2 (.box 0 107),qm 3 (.box 1 107),qm 4 (.alloc [vi 0,.nils,vi 0,.nils] 107)] (.seq (.drawn [⟨[⟨0,qm 5 (.load 4 true 2)⟩,⟨1,qm 6 (.load 4 true 3)⟩],[],some ⟨2,qc 7 235 [6]⟩,[⟨0,qm 5 (.load 4 true 2)⟩]⟩,⟨[],[],some ⟨3,qc 8 153 [5,7]⟩,[]⟩,⟨[],[],some ⟨4,qw (.store 4 4 8)⟩,[]⟩,⟨[],[],none,[]⟩]) .ret),[(.c 4 4 true)]⟩
def fn269 : RFn := ⟨9,qo [qm 2 (.box 0 107),qm 3 (.box 1 107),qv 4 qF] (qo [qm 5 (.load 4 true 2),qm 6 (.load 4 true 3),qc 7 197 [5,6],qb 8 .eql 7 (qI 0),qv 4 8] .ret),[(.t 4)]⟩
def fn75 : RFn := ⟨9,qo [qm 1 (.box 0 105),qv 2 (qI 0),qv 3 qF] (.seq (.drawn [⟨[⟨0,qf 4 0 1⟩,⟨1,ql 5 4⟩,⟨2,qf 6 1 1⟩,⟨3,ql 7 6⟩,⟨4,q 8 (.nilop .eql .slice 7)⟩,⟨5,qv 2 5⟩,⟨6,qv 3 8⟩],[],none,[]⟩]) .ret),[(.t 2),(.t 3)]⟩
theorem Sm.neg {a : Int} (h : Sm a) : Sm (-a) := ⟨by have := h.2; omega, by have := h.1; omega⟩
theorem sm_of {a : Int} (h : isSmall a = true) : Sm a := by
 unfold isSmall at h
 rw [Bool.and_eq_true] at h
 exact ⟨leI_iff h.1, leI_iff h.2⟩
theorem sm_at {a : Int} (h : Sm a) : isSmall a = true := by
 unfold isSmall
 rw [Bool.and_eq_true]
 exact ⟨decide_eq_true h.1, decide_eq_true h.2⟩
def outF (q : Q) : Option V := bif isSmall q.1 && isSmall q.2 then some (vf q.1 q.2) else none
theorem outF_inv {q : Q} {v : V} (h : outF q = some v) : v = vf q.1 q.2 ∧ Sm q.1 ∧ Sm q.2 := by
 obtain ⟨h1, h⟩ := bif_none h
 injection h with h
 rw [Bool.and_eq_true] at h1
 exact ⟨h.symm, sm_of h1.1, sm_of h1.2⟩
theorem outF_at {q : Q} (h1 : Sm q.1) (h2 : Sm q.2) : outF q = some (vf q.1 q.2) := by
 unfold outF
 rw [sm_at h1, sm_at h2]; rfl
def f1 (g : Int → Int → Option V) : List V → Option V
 | [.agg [.int .i64 a, .nils, .int .i64 b, .nils]] => bif isSmall a && isSmall b then g a b else none
 | _ => none
def f2 (g : Int → Int → Int → Int → Option V) : List V → Option V
 | [.agg [.int .i64 a, .nils, .int .i64 b, .nils], .agg [.int .i64 c, .nils, .int .i64 d, .nils]] => bif (isSmall a && isSmall b) && (isSmall c && isSmall d) then g a b c d else none
 | _ => none
theorem f1_inv {g : Int → Int → Option V} {vs : List V} {v : V} (h : f1 g vs = some v) : ∃ a b, vs = [vf a b] ∧ Sm a ∧ Sm b ∧ g a b = some v := by
 unfold f1 at h
 split at h
 ·rename_i a b
  obtain ⟨h1, h⟩ := bif_none h
  rw [Bool.and_eq_true] at h1
  exact ⟨a, b, rfl, sm_of h1.1, sm_of h1.2, h⟩
 ·cases h
theorem f2_inv {g : Int → Int → Int → Int → Option V} {vs : List V} {v : V} (h : f2 g vs = some v) : ∃ a b c d, vs = [vf a b, vf c d] ∧ Sm a ∧ Sm b ∧ Sm c ∧ Sm d ∧ g a b c d = some v := by
 unfold f2 at h
 split at h
 ·rename_i a b c d
  obtain ⟨h1, h⟩ := bif_none h
  simp only [Bool.and_eq_true] at h1
  exact ⟨a, b, c, d, rfl, sm_of h1.1.1, sm_of h1.1.2, sm_of h1.2.1, sm_of h1.2.2, h⟩
 ·cases h
theorem f1_at {g : Int → Int → Option V} {a b : Int} (ha : Sm a) (hb : Sm b) : f1 g [vf a b] = g a b := by
 show (bif isSmall a && isSmall b then g a b else none) = _
 rw [sm_at ha, sm_at hb]; rfl
theorem f2_at {g : Int → Int → Int → Int → Option V} {a b c d : Int} (ha : Sm a) (hb : Sm b) (hc : Sm c) (hd : Sm d) : f2 g [vf a b, vf c d] = g a b c d := by
 show (bif (isSmall a && isSmall b) && (isSmall c && isSmall d) then g a b c d else none) = _
 rw [sm_at ha, sm_at hb, sm_at hc, sm_at hd]; rfl
def tFSign := f1 fun a _ => some (vi (sgn a))
def tFNeg := f1 fun a b => some (vf (-a) b)
def tFAdd := f2 fun a b c d => bif b * d == 0 then none else outF (addQ' a b c d)
def tFMul := f2 fun a b c d => bif b * d == 0 then none else outF (low (a * c) (b * d))
def tFCmp := f2 fun a b c d => some (vi (cmpI (a * d) (c * b)))
def tFSub := f2 fun a b c d => bif b * d == 0 then none else outF (addQ' a b (-c) d)
def tFInv := f1 fun a b => bif a == 0 then none else outF (low b a)
def tFDiv := f2 fun a b c d => bif c == 0 then none else bif isSmall (low d c).1 && isSmall (low d c).2 then (bif b * (low d c).2 == 0 then none else outF (low (a * (low d c).1) (b * (low d c).2))) else none
def tFSame := f2 fun a b c d => some (.bool (cmpI (a * d) (c * b) == 0))
section
variable {E : Env'}
attribute [local irreducible] callK
theorem r144 (h : Has E 155 fn144) (h149 : E.nat.get 160 = some tSign) {a b : Int} (ha : Sm a) : Gives E 155 [vf a b] (vi (sgn a)) := by
 refine h.gives 50 ?_
 conv => arg 2; whnf
 refine Ok.opt (callK_nat (vs := [vn a]) (v := vi (sgn a)) h149 _ (t1_at ha.mid) _ _) ?_
 conv => arg 2; whnf
 exact Ok.done rfl
theorem r138 (h : Has E 149 fn138) (h157 : E.nat.get 167 = some tNeg) {a b : Int} (ha : Sm a) : Gives E 149 [vf a b] (vf (-a) b) := by
 refine h.gives 50 ?_
 conv => arg 2; whnf
 refine Ok.opt (callK_nat (vs := [vn a]) (v := vn (-a)) h157 _ (t1_at ha.mid) _ _) ?_
 conv => arg 2; whnf
 refine Ok.tt (rec_ok (show (V.same (vn b) (vn b) && true) = true by rw [same_vn]; rfl)) ?_
 conv => arg 2; whnf
 exact Ok.done rfl
theorem r141 (h : Has E 152 fn141) (h138 : E.nat.get 149 = some tFNeg) (h140 : E.nat.get 151 = some tFAdd) {a b c d : Int} (ha : Sm a) (hb : Sm b) (hc : Sm c) (hd : Sm d) {v : V} (hv : tFAdd [vf a b, vf (-c) d] = some v) (hq : ∃ x y, v = vf x y) : Gives E 152 [vf a b, vf c d] v := by
 obtain ⟨x, y, rfl⟩ := hq
 refine h.gives 50 ?_
 conv => arg 2; whnf
 refine Ok.opt (callK_nat (vs := [vf c d]) (v := vf (-c) d) h138 _ (f1_at hc hd) _ _) ?_
 conv => arg 2; whnf
 refine Ok.tt (rec_ok (show (V.same (vf a b) (vf a b) && true) = true by rw [same_vf]; rfl)) ?_
 conv => arg 2; whnf
 refine Ok.opt (callK_nat h140 _ hv _ _) ?_
 conv => arg 2; whnf
 exact Ok.done rfl
theorem r221 (h : Has E 235 fn221) (h220 : E.nat.get 234 = some tMake) {a b : Int} (ha : Sm a) (hb : Sm b) (hz : a ≠ 0) : Gives E 235 [vf a b] (vf (low b a).1 (low b a).2) := by
 refine h.gives 50 ?_
 conv => arg 2; whnf
 refine Ok.opt (callK_nat (vs := [vn b, vn a]) h220 _ (make_at hb.mid ha.mid hz) _ _) ?_
 conv => arg 2; whnf
 exact Ok.done rfl
theorem r145 (h : Has E 156 fn145) (h221 : E.nat.get 235 = some tFInv) (h142 : E.nat.get 153 = some tFMul) {a b c d : Int} {x y : Int} {v : V} (hi : tFInv [vf c d] = some (vf x y)) (hv : tFMul [vf a b, vf x y] = some v) (hq : ∃ p q, v = vf p q) : Gives E 156 [vf a b, vf c d] v := by
 obtain ⟨p, q, rfl⟩ := hq
 refine h.gives 50 ?_
 conv => arg 2; whnf
 refine Ok.opt (callK_nat (vs := [vf c d]) (v := vf x y) h221 _ hi _ _) ?_
 conv => arg 2; whnf
 refine Ok.tt (rec_ok (show (V.same (vf a b) (vf a b) && true) = true by rw [same_vf]; rfl)) ?_
 conv => arg 2; whnf
 refine Ok.opt (callK_nat h142 _ hv _ _) ?_
 conv => arg 2; whnf
 exact Ok.done rfl
theorem r269 (h : Has E 282 fn269) (h187 : E.nat.get 197 = some tFCmp) {a b c d : Int} (ha : Sm a) (hb : Sm b) (hc : Sm c) (hd : Sm d) : Gives E 282 [vf a b, vf c d] (.bool (cmpI (a * d) (c * b) == 0)) := by
 refine h.gives 50 ?_
 conv => arg 2; whnf
 refine Ok.opt (callK_nat (vs := [vf a b, vf c d]) (v := vi (cmpI (a * d) (c * b))) h187 _ (f2_at ha hb hc hd) _ _) ?_
 conv => arg 2; whnf
 exact Ok.done (congrArg V.bool (eqIK_eq _ _))
theorem r75 (h : Has E 93 fn75) (a : Int) : Gives E 93 [vn a] (.tup [vi a, .bool true]) := by
 refine h.gives 50 ?_
 conv => arg 2; whnf
 exact Ok.done rfl
end
end Go.Fm
namespace Go.Fm
def lo32 (x : Int) : Int := IntKind.u64.wrap (BitVec.ofInt IntKind.u64.bits x &&& BitVec.ofInt IntKind.u64.bits 4294967295).toNat
def hi32 (x : Int) : Int := x.fdiv (2 ^ (min (32 : Int).toNat IntKind.u64.bits))
theorem wrap_u (n : Int) : IntKind.u64.wrap n = n % 18446744073709551616 := by
 unfold IntKind.wrap
 simp [IntKind.signed, IntKind.bits]
theorem lo32_eq {x : Int} (h : 0 ≤ x) (h2 : x ≤ 18446744073709551615) : lo32 x = x % 4294967296 := by
 obtain ⟨n, rfl⟩ := Int.eq_ofNat_of_zero_le h
 unfold lo32
 have e : (BitVec.ofInt IntKind.u64.bits (n : Int) &&& BitVec.ofInt IntKind.u64.bits 4294967295).toNat = n % 4294967296 := by
  rw [BitVec.toNat_and]
  have e1 : (BitVec.ofInt IntKind.u64.bits (n : Int)).toNat = n := by
   show (BitVec.ofInt 64 (n : Int)).toNat = n
   rw [BitVec.toNat_ofInt]
   omega
  have e2 : (BitVec.ofInt IntKind.u64.bits 4294967295).toNat = 2 ^ 32 - 1 := by rfl
  rw [e1, e2, Nat.and_two_pow_sub_one_eq_mod]
 rw [e, wrap_u]; omega
theorem hi32_eq {x : Int} (h : 0 ≤ x) : hi32 x = x / 4294967296 := by
 unfold hi32
 show x.fdiv 4294967296 = _
 exact Int.fdiv_eq_ediv_of_nonneg _ (by omega)
section
variable {E : Env'}
attribute [local irreducible] callK
theorem r226 (h : Has E 239 fn226) {x y : Int} (hx : 0 ≤ x) (hx2 : x ≤ 4611686018427387903) (hy : 0 ≤ y) (hy2 : y ≤ 4611686018427387903) : Gives E 239 [.int .u64 x, .int .u64 y] (.tup [.int .u64 (x * y / 18446744073709551616), .int .u64 (x * y % 18446744073709551616)]) := by
 refine h.gives 50 ?_
 conv => arg 2; whnf
 refine Ok.done (?_ : V.tup [.int .u64 (wrapK .u64 (wrapK .u64 (wrapK .u64 (hi32 x * hi32 y) + hi32 (wrapK .u64 (wrapK .u64 (hi32 x * lo32 y) + hi32 (wrapK .u64 (lo32 x * lo32 y))))) + hi32 (wrapK .u64 (lo32 (wrapK .u64 (wrapK .u64 (hi32 x * lo32 y) + hi32 (wrapK .u64 (lo32 x * lo32 y)))) + wrapK .u64 (lo32 x * hi32 y))))),
  .int .u64 (wrapK .u64 (x * y))] = _)
 have a0 := Int.emod_nonneg x (show (4294967296 : Int) ≠ 0 by decide)
 have a1 := Int.emod_lt_of_pos x (show (0 : Int) < 4294967296 by decide)
 have b0 := Int.emod_nonneg y (show (4294967296 : Int) ≠ 0 by decide)
 have b1 := Int.emod_lt_of_pos y (show (0 : Int) < 4294967296 by decide)
 have ex : x = x / 4294967296 * 4294967296 + x % 4294967296 := by omega
 have ey : y = y / 4294967296 * 4294967296 + y % 4294967296 := by omega
 have c0 : 0 ≤ x / 4294967296 := by omega
 have c1 : x / 4294967296 < 4294967296 := by omega
 have d0 : 0 ≤ y / 4294967296 := by omega
 have d1 : y / 4294967296 < 4294967296 := by omega
 rw [lo32_eq hx (by omega), lo32_eq hy (by omega), hi32_eq hx, hi32_eq hy]
 have em : x * y = x / 4294967296 * (y / 4294967296) * 18446744073709551616 + (x / 4294967296 * (y % 4294967296) + x % 4294967296 * (y / 4294967296)) * 4294967296 + x % 4294967296 * (y % 4294967296) := by
  generalize x / 4294967296 = p at *
  generalize x % 4294967296 = q at *
  generalize y / 4294967296 = r at *
  generalize y % 4294967296 = s at *
  subst ex; subst ey
  simp only [Int.add_mul, Int.mul_add]
  have e1 : p * 4294967296 * (r * 4294967296) = p * r * 18446744073709551616 := by rw [Int.mul_assoc, Int.mul_left_comm (4294967296 : Int) r, ← Int.mul_assoc, ← Int.mul_assoc, Int.mul_assoc]; rfl
  have e2 : p * 4294967296 * s = p * s * 4294967296 := Int.mul_right_comm _ _ _
  have e3 : q * (r * 4294967296) = q * r * 4294967296 := (Int.mul_assoc _ _ _).symm
  rw [e1, e2, e3]; omega
 have bd : ∀ {u v : Int}, 0 ≤ u → u < 4294967296 → 0 ≤ v → v < 4294967296 → 0 ≤ u * v ∧ u * v ≤ 18446744065119617025 := by
  intro u v hu hu2 hv hv2
  refine ⟨Int.mul_nonneg hu hv, ?_⟩
  exact Int.mul_le_mul (show u ≤ 4294967295 by omega) (show v ≤ 4294967295 by omega) hv (by decide)
 have p1 := bd c0 c1 d0 d1
 have hD : x / 4294967296 * (y / 4294967296) ≤ 1152921504606846976 := Int.mul_le_mul (show x / 4294967296 ≤ 1073741824 by omega) (show y / 4294967296 ≤ 1073741824 by omega) d0 (by decide)
 have p2 := bd c0 c1 b0 b1
 have p3 := bd a0 a1 d0 d1
 have p4 := bd a0 a1 b0 b1
 rw [em]
 generalize x / 4294967296 * (y / 4294967296) = D at *
 generalize x / 4294967296 * (y % 4294967296) = B at *
 generalize x % 4294967296 * (y / 4294967296) = C at *
 generalize x % 4294967296 * (y % 4294967296) = A at *
 rw [wrapU (n := A) (by omega) (by omega), hi32_eq (x := A) (by omega), wrapU (n := B) (by omega) (by omega), wrapU (n := B + A / 4294967296) (by omega) (by omega), lo32_eq (x := B + A / 4294967296) (by omega) (by omega), hi32_eq (x := B + A / 4294967296) (by omega), wrapU (n := C) (by omega) (by omega), wrapU (n := (B + A / 4294967296) % 4294967296 + C) (by omega) (by omega), hi32_eq (x := (B + A / 4294967296) % 4294967296 + C) (by omega), wrapU (n := D) (by omega) (by omega)]
 rw [wrapU (n := D + (B + A / 4294967296) / 4294967296) (by omega) (by omega), wrapU (n := D + (B + A / 4294967296) / 4294967296 + ((B + A / 4294967296) % 4294967296 + C) / 4294967296) (by omega) (by omega), wrapK_eq, wrap_u]
 congr 2
 ·congr 1; omega
end
end Go.Fm
namespace Go.Fm
def Env'.withNat (E : Env') (f : FuncId) (F : List V → Option V) : Env' := { E with nat := match Tr.put E.nat f (some F) with
 | some t => t
 | none => E.nat }
theorem with_get {E : Env'} {g : FuncId} {G : List V → Option V} (hg : g < 4096) (f : FuncId) : (E.withNat g G).nat.get f = if f = g then some G else E.nat.get f := by
 obtain ⟨t, ht⟩ := Tr.put_ok (d := 4) (k := g) (by omega) E.nat (some G)
 have e : (E.withNat g G).nat = t := by simp only [Env'.withNat, ht]
 rw [e, Tr.get_put ht]
theorem Has.with {E : Env'} {f g : FuncId} {fn : RFn} {G : List V → Option V} (h : Has E f fn) (hg : g < 4096) (hne : f ≠ g) : Has (E.withNat g G) f fn :=
 ⟨by rw [with_get hg, if_neg hne]; exact h.h1, h.h2, h.h3⟩
section
variable [Ctx] {P : Program} {E : Env'}
theorem EnvOk.addNat (hE : EnvOk P E) {f : FuncId} {F : List V → Option V} (h : NSpec P f F) : EnvOk P (E.withNat f F) := by
 refine ⟨fun g G hg => ?_, hE.fns, hE.sites, hE.mnat, hE.dfns, hE.mix⟩
 unfold Env'.withNat at hg
 split at hg
 ·rename_i t ht
  rw [Tr.get_put ht] at hg
  by_cases hgf : g = f
  ·rw [if_pos hgf] at hg
   injection hg with hg; subst hg; subst hgf; exact h
  ·rw [if_neg hgf] at hg; exact hE.nat g G hg
 ·exact hE.nat g G hg
theorem ns_t1 (hE : EnvOk P E) {f : FuncId} {g : Int → Option V} (h : ∀ a v, Mid a → g a = some v → pureV v = true ∧ Gives E f [vn a] v) : NSpec P f (t1 g) :=
 nspec_of_gives hE fun vs v hF => by
  obtain ⟨a, rfl, ha, hg⟩ := t1_inv hF
  obtain ⟨h1, h2⟩ := h a v ha hg
  exact ⟨rfl, h1, h2⟩
theorem ns_t2 (hE : EnvOk P E) {f : FuncId} {g : Int → Int → Option V} (h : ∀ a b v, Mid a → Mid b → g a b = some v → pureV v = true ∧ Gives E f [vn a, vn b] v) : NSpec P f (t2 g) :=
 nspec_of_gives hE fun vs v hF => by
  obtain ⟨a, b, rfl, ha, hb, hg⟩ := t2_inv hF
  obtain ⟨h1, h2⟩ := h a b v ha hb hg
  exact ⟨rfl, h1, h2⟩
theorem ns_f1 (hE : EnvOk P E) {f : FuncId} {g : Int → Int → Option V} (h : ∀ a b v, Sm a → Sm b → g a b = some v → pureV v = true ∧ Gives E f [vf a b] v) : NSpec P f (f1 g) :=
 nspec_of_gives hE fun vs v hF => by
  obtain ⟨a, b, rfl, ha, hb, hg⟩ := f1_inv hF
  obtain ⟨h1, h2⟩ := h a b v ha hb hg
  exact ⟨rfl, h1, h2⟩
theorem ns_f2 (hE : EnvOk P E) {f : FuncId} {g : Int → Int → Int → Int → Option V} (h : ∀ a b c d v, Sm a → Sm b → Sm c → Sm d → g a b c d = some v → pureV v = true ∧ Gives E f [vf a b, vf c d] v) : NSpec P f (f2 g) :=
 nspec_of_gives hE fun vs v hF => by
  obtain ⟨a, b, c, d, rfl, ha, hb, hc, hd, hg⟩ := f2_inv hF
  obtain ⟨h1, h2⟩ := h a b c d v ha hb hc hd hg
  exact ⟨rfl, h1, h2⟩
structure HasAll (E : Env') : Prop where
 g154 : Has E 164 fn154
 g76 : Has E 94 fn76
 g79 : Has E 97 fn79
 g149 : Has E 160 fn149
 g157 : Has E 167 fn157
 g148 : Has E 159 fn148
 g156 : Has E 166 fn156
 g278 : Has E 291 fn278
 g80 : Has E 98 fn80
 g227 : Has E 240 fn227
 g226 : Has E 239 fn226
 g153 : Has E 163 fn153
 g150 : Has E 161 fn150
 g322 : Has E 333 fn322
 g73 : Has E 91 fn73
 g220 : Has E 234 fn220
 g140 : Has E 151 fn140
 g142 : Has E 153 fn142
 g187 : Has E 197 fn187
 g144 : Has E 155 fn144
 g138 : Has E 149 fn138
 g141 : Has E 152 fn141
 g221 : Has E 235 fn221
 g145 : Has E 156 fn145
 g269 : Has E 282 fn269
 g75 : Has E 93 fn75
def n1 (E : Env') : Env' := E.withNat 164 tOf
def n2 (E : Env') : Env' := (n1 E).withNat 94 tWhole
def n3 (E : Env') : Env' := (n2 E).withNat 97 tF
def n4 (E : Env') : Env' := (n3 E).withNat 160 tSign
def n5 (E : Env') : Env' := (n4 E).withNat 167 tNeg
def n6 (E : Env') : Env' := (n5 E).withNat 159 tAbs
def n7 (E : Env') : Env' := (n6 E).withNat 166 tAdd
def n8 (E : Env') : Env' := (n7 E).withNat 291 tCmp
def n9 (E : Env') : Env' := (n8 E).withNat 98 tIsWhole
def n10 (E : Env') : Env' := (n9 E).withNat 240 tSize
def n11 (E : Env') : Env' := (n10 E).withNat 239 tMul64
def n12 (E : Env') : Env' := (n11 E).withNat 163 tMul
def n13 (E : Env') : Env' := (n12 E).withNat 161 tDivMod
def n14 (E : Env') : Env' := (n13 E).withNat 333 tQuo
def n15 (E : Env') : Env' := (n14 E).withNat 91 tGcd
def n16 (E : Env') : Env' := (n15 E).withNat 234 tMake
def n17 (E : Env') : Env' := (n16 E).withNat 151 tFAdd
def n18 (E : Env') : Env' := (n17 E).withNat 153 tFMul
def n19 (E : Env') : Env' := (n18 E).withNat 197 tFCmp
def n20 (E : Env') : Env' := (n19 E).withNat 155 tFSign
def n21 (E : Env') : Env' := (n20 E).withNat 149 tFNeg
def n22 (E : Env') : Env' := (n21 E).withNat 152 tFSub
def n23 (E : Env') : Env' := (n22 E).withNat 235 tFInv
def n24 (E : Env') : Env' := (n23 E).withNat 156 tFDiv
def n25 (E : Env') : Env' := (n24 E).withNat 282 tFSame
def tSmall := t1 fun a => some (.tup [vi a, .bool true])
def n26 (E : Env') : Env' := (n25 E).withNat 93 tSmall
theorem n1_ok (hE : EnvOk P E) (H : HasAll E) : EnvOk P (n1 E) := EnvOk.addNat hE <| nspec_of_gives hE fun vs v hF => by
 unfold tOf at hF
 split at hF
 ·rename_i a
  obtain ⟨rfl, _⟩ := outN_inv hF
  exact ⟨rfl, rfl, r154 H.g154 a⟩
 ·cases hF
theorem n2_ok (hE : EnvOk P E) (H : HasAll E) : EnvOk P (n2 E) := EnvOk.addNat (n1_ok hE H) <| ns_t1 (n1_ok hE H) fun a v ha hg => by
 injection hg with hg; subst hg
 exact ⟨rfl, r76 (show Has (n1 E) 94 fn76 from (H.g76.with (by decide) (by decide))) (by simp [n1, with_get] : (n1 E).nat.get 164 = some tOf) a⟩
theorem n3_ok (hE : EnvOk P E) (H : HasAll E) : EnvOk P (n3 E) := EnvOk.addNat (n2_ok hE H) <| nspec_of_gives (n2_ok hE H) fun vs v hF => by
 unfold tF at hF
 split at hF
 ·rename_i a
  obtain ⟨h1, hF⟩ := bif_none hF
  injection hF with hF; subst hF
  exact ⟨rfl, rfl, r79 (show Has (n2 E) 97 fn79 from ((H.g79.with (by decide) (by decide)).with (by decide) (by decide))) (by simp [n2, n1, with_get] : (n2 E).nat.get 164 = some tOf) (by simp [n2, n1, with_get] : (n2 E).nat.get 94 = some tWhole) (mid_of h1)⟩
 ·cases hF
theorem n4_ok (hE : EnvOk P E) (H : HasAll E) : EnvOk P (n4 E) := EnvOk.addNat (n3_ok hE H) <| ns_t1 (n3_ok hE H) fun a v ha hg => by
 injection hg with hg; subst hg
 exact ⟨rfl, r149 (show Has (n3 E) 160 fn149 from (((H.g149.with (by decide) (by decide)).with (by decide) (by decide)).with (by decide) (by decide))) a⟩
theorem n5_ok (hE : EnvOk P E) (H : HasAll E) : EnvOk P (n5 E) := EnvOk.addNat (n4_ok hE H) <| ns_t1 (n4_ok hE H) fun a v ha hg => by
 injection hg with hg; subst hg
 exact ⟨rfl, r157 (show Has (n4 E) 167 fn157 from ((((H.g157.with (by decide) (by decide)).with (by decide) (by decide)).with (by decide) (by decide)).with (by decide) (by decide))) ha⟩
theorem n6_ok (hE : EnvOk P E) (H : HasAll E) : EnvOk P (n6 E) := EnvOk.addNat (n5_ok hE H) <| ns_t1 (n5_ok hE H) fun a v ha hg => by
 injection hg with hg; subst hg
 exact ⟨rfl, r148 (show Has (n5 E) 159 fn148 from (((((H.g148.with (by decide) (by decide)).with (by decide) (by decide)).with (by decide) (by decide)).with (by decide) (by decide)).with (by decide) (by decide))) (by simp [n5, n4, n3, n2, n1, with_get] : (n5 E).nat.get 167 = some tNeg) ha⟩
theorem n7_ok (hE : EnvOk P E) (H : HasAll E) : EnvOk P (n7 E) := EnvOk.addNat (n6_ok hE H) <| ns_t2 (n6_ok hE H) fun a b v ha hb hg => by
 obtain ⟨rfl, _⟩ := outN_inv hg
 exact ⟨rfl, r156 (show Has (n6 E) 166 fn156 from ((((((H.g156.with (by decide) (by decide)).with (by decide) (by decide)).with (by decide) (by decide)).with (by decide) (by decide)).with (by decide) (by decide)).with (by decide) (by decide))) ha hb⟩
theorem n8_ok (hE : EnvOk P E) (H : HasAll E) : EnvOk P (n8 E) := EnvOk.addNat (n7_ok hE H) <| ns_t2 (n7_ok hE H) fun a b v ha hb hg => by
 injection hg with hg; subst hg
 exact ⟨rfl, r278 (show Has (n7 E) 291 fn278 from (((((((H.g278.with (by decide) (by decide)).with (by decide) (by decide)).with (by decide) (by decide)).with (by decide) (by decide)).with (by decide) (by decide)).with (by decide) (by decide)).with (by decide) (by decide))) a b⟩
theorem n9_ok (hE : EnvOk P E) (H : HasAll E) : EnvOk P (n9 E) := EnvOk.addNat (n8_ok hE H) <| nspec_of_gives (n8_ok hE H) fun vs v hF => by
 unfold tIsWhole at hF
 split at hF
 ·rename_i a b
  injection hF with hF; subst hF
  exact ⟨rfl, rfl, r80 (show Has (n8 E) 98 fn80 from ((((((((H.g80.with (by decide) (by decide)).with (by decide) (by decide)).with (by decide) (by decide)).with (by decide) (by decide)).with (by decide) (by decide)).with (by decide) (by decide)).with (by decide) (by decide)).with (by decide) (by decide))) a b⟩
 ·cases hF
theorem n10_ok (hE : EnvOk P E) (H : HasAll E) : EnvOk P (n10 E) := EnvOk.addNat (n9_ok hE H) <| nspec_of_gives (n9_ok hE H) fun vs v hF => by
 unfold tSize at hF
 split at hF
 ·rename_i a
  obtain ⟨h1, hF⟩ := bif_none hF
  injection hF with hF; subst hF
  exact ⟨rfl, rfl, r227 (show Has (n9 E) 240 fn227 from (((((((((H.g227.with (by decide) (by decide)).with (by decide) (by decide)).with (by decide) (by decide)).with (by decide) (by decide)).with (by decide) (by decide)).with (by decide) (by decide)).with (by decide) (by decide)).with (by decide) (by decide)).with (by decide) (by decide))) (mid_of h1)⟩
 ·cases hF
theorem n11_ok (hE : EnvOk P E) (H : HasAll E) : EnvOk P (n11 E) := EnvOk.addNat (n10_ok hE H) <| nspec_of_gives (n10_ok hE H) fun vs v hF => by
 unfold tMul64 at hF
 split at hF
 ·rename_i x y
  obtain ⟨h1, hF⟩ := bif_none hF
  injection hF with hF; subst hF
  simp only [Bool.and_eq_true] at h1
  exact ⟨rfl, rfl, r226 (show Has (n10 E) 239 fn226 from ((((((((((H.g226.with (by decide) (by decide)).with (by decide) (by decide)).with (by decide) (by decide)).with (by decide) (by decide)).with (by decide) (by decide)).with (by decide) (by decide)).with (by decide) (by decide)).with (by decide) (by decide)).with (by decide) (by decide)).with (by decide) (by decide))) (leI_iff h1.1.1) (leI_iff h1.1.2) (leI_iff h1.2.1) (leI_iff h1.2.2)⟩
 ·cases hF
theorem n12_ok (hE : EnvOk P E) (H : HasAll E) : EnvOk P (n12 E) := EnvOk.addNat (n11_ok hE H) <| ns_t2 (n11_ok hE H) fun a b v ha hb hg => by
 obtain ⟨rfl, hm⟩ := outN_inv hg
 exact ⟨rfl, r153 (show Has (n11 E) 163 fn153 from (((((((((((H.g153.with (by decide) (by decide)).with (by decide) (by decide)).with (by decide) (by decide)).with (by decide) (by decide)).with (by decide) (by decide)).with (by decide) (by decide)).with (by decide) (by decide)).with (by decide) (by decide)).with (by decide) (by decide)).with (by decide) (by decide)).with (by decide) (by decide))) (by simp [n11, n10, n9, n8, n7, n6, n5, n4, n3, n2, n1, with_get] : (n11 E).nat.get 240 = some tSize) (by simp [n11, n10, n9, n8, n7, n6, n5, n4, n3, n2, n1, with_get] : (n11 E).nat.get 239 = some tMul64) ha hb hm⟩
theorem n13_ok (hE : EnvOk P E) (H : HasAll E) : EnvOk P (n13 E) := EnvOk.addNat (n12_ok hE H) <| ns_t2 (n12_ok hE H) fun a b v ha hb hg => by
 obtain ⟨h1, hg⟩ := bif_none hg
 injection hg with hg; subst hg
 exact ⟨rfl, r150 (show Has (n12 E) 161 fn150 from ((((((((((((H.g150.with (by decide) (by decide)).with (by decide) (by decide)).with (by decide) (by decide)).with (by decide) (by decide)).with (by decide) (by decide)).with (by decide) (by decide)).with (by decide) (by decide)).with (by decide) (by decide)).with (by decide) (by decide)).with (by decide) (by decide)).with (by decide) (by decide)).with (by decide) (by decide))) ha hb (ltI_iff h1)⟩
theorem n14_ok (hE : EnvOk P E) (H : HasAll E) : EnvOk P (n14 E) := EnvOk.addNat (n13_ok hE H) <| ns_t2 (n13_ok hE H) fun a b v ha hb hg => by
 obtain ⟨h1, hg⟩ := bif_none' hg
 injection hg with hg; subst hg
 exact ⟨rfl, r322 (show Has (n13 E) 333 fn322 from (((((((((((((H.g322.with (by decide) (by decide)).with (by decide) (by decide)).with (by decide) (by decide)).with (by decide) (by decide)).with (by decide) (by decide)).with (by decide) (by decide)).with (by decide) (by decide)).with (by decide) (by decide)).with (by decide) (by decide)).with (by decide) (by decide)).with (by decide) (by decide)).with (by decide) (by decide)).with (by decide) (by decide))) (by simp [n13, n12, n11, n10, n9, n8, n7, n6, n5, n4, n3, n2, n1, with_get] : (n13 E).nat.get 160 = some tSign) (by simp [n13, n12, n11, n10, n9, n8, n7, n6, n5, n4, n3, n2, n1, with_get] : (n13 E).nat.get 167 = some tNeg) (by simp [n13, n12, n11, n10, n9, n8, n7, n6, n5, n4, n3, n2, n1, with_get] : (n13 E).nat.get 161 = some tDivMod) ha hb (beq_eq_false_iff_ne.1 h1)⟩
theorem n15_ok (hE : EnvOk P E) (H : HasAll E) : EnvOk P (n15 E) := EnvOk.addNat (n14_ok hE H) <| ns_t2 (n14_ok hE H) fun a b v ha hb hg => by
 injection hg with hg; subst hg
 exact ⟨rfl, r73 (show Has (n14 E) 91 fn73 from ((((((((((((((H.g73.with (by decide) (by decide)).with (by decide) (by decide)).with (by decide) (by decide)).with (by decide) (by decide)).with (by decide) (by decide)).with (by decide) (by decide)).with (by decide) (by decide)).with (by decide) (by decide)).with (by decide) (by decide)).with (by decide) (by decide)).with (by decide) (by decide)).with (by decide) (by decide)).with (by decide) (by decide)).with (by decide) (by decide))) (by simp [n14, n13, n12, n11, n10, n9, n8, n7, n6, n5, n4, n3, n2, n1, with_get] : (n14 E).nat.get 159 = some tAbs) (by simp [n14, n13, n12, n11, n10, n9, n8, n7, n6, n5, n4, n3, n2, n1, with_get] : (n14 E).nat.get 160 = some tSign) (by simp [n14, n13, n12, n11, n10, n9, n8, n7, n6, n5, n4, n3, n2, n1, with_get] : (n14 E).nat.get 161 = some tDivMod) ha hb⟩
theorem n16_ok (hE : EnvOk P E) (H : HasAll E) : EnvOk P (n16 E) := EnvOk.addNat (n15_ok hE H) <| ns_t2 (n15_ok hE H) fun a b v ha hb hg => by
 obtain ⟨h1, hg⟩ := bif_none' hg
 injection hg with hg; subst hg
 exact ⟨rfl, r220 (show Has (n15 E) 234 fn220 from (((((((((((((((H.g220.with (by decide) (by decide)).with (by decide) (by decide)).with (by decide) (by decide)).with (by decide) (by decide)).with (by decide) (by decide)).with (by decide) (by decide)).with (by decide) (by decide)).with (by decide) (by decide)).with (by decide) (by decide)).with (by decide) (by decide)).with (by decide) (by decide)).with (by decide) (by decide)).with (by decide) (by decide)).with (by decide) (by decide)).with (by decide) (by decide))) (by simp [n15, n14, n13, n12, n11, n10, n9, n8, n7, n6, n5, n4, n3, n2, n1, with_get] : (n15 E).nat.get 160 = some tSign) (by simp [n15, n14, n13, n12, n11, n10, n9, n8, n7, n6, n5, n4, n3, n2, n1, with_get] : (n15 E).nat.get 167 = some tNeg) (by simp [n15, n14, n13, n12, n11, n10, n9, n8, n7, n6, n5, n4, n3, n2, n1, with_get] : (n15 E).nat.get 91 = some tGcd) (by simp [n15, n14, n13, n12, n11, n10, n9, n8, n7, n6, n5, n4, n3, n2, n1, with_get] : (n15 E).nat.get 333 = some tQuo) ha hb (beq_eq_false_iff_ne.1 h1)⟩
theorem n17_ok (hE : EnvOk P E) (H : HasAll E) : EnvOk P (n17 E) := EnvOk.addNat (n16_ok hE H) <| ns_f2 (n16_ok hE H) fun a b c d v ha hb hc hd hg => by
 obtain ⟨h1, hg⟩ := bif_none' hg
 obtain ⟨rfl, _⟩ := outF_inv hg
 exact ⟨rfl, r140 (show Has (n16 E) 151 fn140 from ((((((((((((((((H.g140.with (by decide) (by decide)).with (by decide) (by decide)).with (by decide) (by decide)).with (by decide) (by decide)).with (by decide) (by decide)).with (by decide) (by decide)).with (by decide) (by decide)).with (by decide) (by decide)).with (by decide) (by decide)).with (by decide) (by decide)).with (by decide) (by decide)).with (by decide) (by decide)).with (by decide) (by decide)).with (by decide) (by decide)).with (by decide) (by decide)).with (by decide) (by decide))) (by simp [n16, n15, n14, n13, n12, n11, n10, n9, n8, n7, n6, n5, n4, n3, n2, n1, with_get] : (n16 E).nat.get 98 = some tIsWhole) (by simp [n16, n15, n14, n13, n12, n11, n10, n9, n8, n7, n6, n5, n4, n3, n2, n1, with_get] : (n16 E).nat.get 163 = some tMul) (by simp [n16, n15, n14, n13, n12, n11, n10, n9, n8, n7, n6, n5, n4, n3, n2, n1, with_get] : (n16 E).nat.get 166 = some tAdd) (by simp [n16, n15, n14, n13, n12, n11, n10, n9, n8, n7, n6, n5, n4, n3, n2, n1, with_get] : (n16 E).nat.get 94 = some tWhole) (by simp [n16, n15, n14, n13, n12, n11, n10, n9, n8, n7, n6, n5, n4, n3, n2, n1, with_get] : (n16 E).nat.get 234 = some tMake) ha hb hc hd (beq_eq_false_iff_ne.1 h1)⟩
theorem n18_ok (hE : EnvOk P E) (H : HasAll E) : EnvOk P (n18 E) := EnvOk.addNat (n17_ok hE H) <| ns_f2 (n17_ok hE H) fun a b c d v ha hb hc hd hg => by
 obtain ⟨h1, hg⟩ := bif_none' hg
 obtain ⟨rfl, _⟩ := outF_inv hg
 exact ⟨rfl, r142 (show Has (n17 E) 153 fn142 from (((((((((((((((((H.g142.with (by decide) (by decide)).with (by decide) (by decide)).with (by decide) (by decide)).with (by decide) (by decide)).with (by decide) (by decide)).with (by decide) (by decide)).with (by decide) (by decide)).with (by decide) (by decide)).with (by decide) (by decide)).with (by decide) (by decide)).with (by decide) (by decide)).with (by decide) (by decide)).with (by decide) (by decide)).with (by decide) (by decide)).with (by decide) (by decide)).with (by decide) (by decide)).with (by decide) (by decide))) (by simp [n17, n16, n15, n14, n13, n12, n11, n10, n9, n8, n7, n6, n5, n4, n3, n2, n1, with_get] : (n17 E).nat.get 163 = some tMul) (by simp [n17, n16, n15, n14, n13, n12, n11, n10, n9, n8, n7, n6, n5, n4, n3, n2, n1, with_get] : (n17 E).nat.get 234 = some tMake) ha hb hc hd (beq_eq_false_iff_ne.1 h1)⟩
theorem n19_ok (hE : EnvOk P E) (H : HasAll E) : EnvOk P (n19 E) := EnvOk.addNat (n18_ok hE H) <| ns_f2 (n18_ok hE H) fun a b c d v ha hb hc hd hg => by
 injection hg with hg; subst hg
 exact ⟨rfl, r187 (show Has (n18 E) 197 fn187 from ((((((((((((((((((H.g187.with (by decide) (by decide)).with (by decide) (by decide)).with (by decide) (by decide)).with (by decide) (by decide)).with (by decide) (by decide)).with (by decide) (by decide)).with (by decide) (by decide)).with (by decide) (by decide)).with (by decide) (by decide)).with (by decide) (by decide)).with (by decide) (by decide)).with (by decide) (by decide)).with (by decide) (by decide)).with (by decide) (by decide)).with (by decide) (by decide)).with (by decide) (by decide)).with (by decide) (by decide)).with (by decide) (by decide))) (by simp [n18, n17, n16, n15, n14, n13, n12, n11, n10, n9, n8, n7, n6, n5, n4, n3, n2, n1, with_get] : (n18 E).nat.get 163 = some tMul) (by simp [n18, n17, n16, n15, n14, n13, n12, n11, n10, n9, n8, n7, n6, n5, n4, n3, n2, n1, with_get] : (n18 E).nat.get 291 = some tCmp) ha.mid hb.mid hc.mid hd.mid (mul_mid ha hd) (mul_mid hc hb)⟩
theorem n20_ok (hE : EnvOk P E) (H : HasAll E) : EnvOk P (n20 E) := EnvOk.addNat (n19_ok hE H) <| ns_f1 (n19_ok hE H) fun a b v ha hb hg => by
 injection hg with hg; subst hg
 exact ⟨rfl, r144 (show Has (n19 E) 155 fn144 from (((((((((((((((((((H.g144.with (by decide) (by decide)).with (by decide) (by decide)).with (by decide) (by decide)).with (by decide) (by decide)).with (by decide) (by decide)).with (by decide) (by decide)).with (by decide) (by decide)).with (by decide) (by decide)).with (by decide) (by decide)).with (by decide) (by decide)).with (by decide) (by decide)).with (by decide) (by decide)).with (by decide) (by decide)).with (by decide) (by decide)).with (by decide) (by decide)).with (by decide) (by decide)).with (by decide) (by decide)).with (by decide) (by decide)).with (by decide) (by decide))) (by simp [n19, n18, n17, n16, n15, n14, n13, n12, n11, n10, n9, n8, n7, n6, n5, n4, n3, n2, n1, with_get] : (n19 E).nat.get 160 = some tSign) ha⟩
theorem n21_ok (hE : EnvOk P E) (H : HasAll E) : EnvOk P (n21 E) := EnvOk.addNat (n20_ok hE H) <| ns_f1 (n20_ok hE H) fun a b v ha hb hg => by
 injection hg with hg; subst hg
 exact ⟨rfl, r138 (show Has (n20 E) 149 fn138 from ((((((((((((((((((((H.g138.with (by decide) (by decide)).with (by decide) (by decide)).with (by decide) (by decide)).with (by decide) (by decide)).with (by decide) (by decide)).with (by decide) (by decide)).with (by decide) (by decide)).with (by decide) (by decide)).with (by decide) (by decide)).with (by decide) (by decide)).with (by decide) (by decide)).with (by decide) (by decide)).with (by decide) (by decide)).with (by decide) (by decide)).with (by decide) (by decide)).with (by decide) (by decide)).with (by decide) (by decide)).with (by decide) (by decide)).with (by decide) (by decide)).with (by decide) (by decide))) (by simp [n20, n19, n18, n17, n16, n15, n14, n13, n12, n11, n10, n9, n8, n7, n6, n5, n4, n3, n2, n1, with_get] : (n20 E).nat.get 167 = some tNeg) ha⟩
theorem n22_ok (hE : EnvOk P E) (H : HasAll E) : EnvOk P (n22 E) := EnvOk.addNat (n21_ok hE H) <| ns_f2 (n21_ok hE H) fun a b c d v ha hb hc hd hg => by
 have hv : tFAdd [vf a b, vf (-c) d] = some v := (f2_at ha hb hc.neg hd).trans hg
 obtain ⟨h1, hg⟩ := bif_none' hg
 obtain ⟨rfl, _⟩ := outF_inv hg
 exact ⟨rfl, r141 (show Has (n21 E) 152 fn141 from (((((((((((((((((((((H.g141.with (by decide) (by decide)).with (by decide) (by decide)).with (by decide) (by decide)).with (by decide) (by decide)).with (by decide) (by decide)).with (by decide) (by decide)).with (by decide) (by decide)).with (by decide) (by decide)).with (by decide) (by decide)).with (by decide) (by decide)).with (by decide) (by decide)).with (by decide) (by decide)).with (by decide) (by decide)).with (by decide) (by decide)).with (by decide) (by decide)).with (by decide) (by decide)).with (by decide) (by decide)).with (by decide) (by decide)).with (by decide) (by decide)).with (by decide) (by decide)).with (by decide) (by decide))) (by simp [n21, n20, n19, n18, n17, n16, n15, n14, n13, n12, n11, n10, n9, n8, n7, n6, n5, n4, n3, n2, n1, with_get] : (n21 E).nat.get 149 = some tFNeg) (by simp [n21, n20, n19, n18, n17, n16, n15, n14, n13, n12, n11, n10, n9, n8, n7, n6, n5, n4, n3, n2, n1, with_get] : (n21 E).nat.get 151 = some tFAdd) ha hb hc hd hv ⟨_, _, rfl⟩⟩
theorem n23_ok (hE : EnvOk P E) (H : HasAll E) : EnvOk P (n23 E) := EnvOk.addNat (n22_ok hE H) <| ns_f1 (n22_ok hE H) fun a b v ha hb hg => by
 obtain ⟨h1, hg⟩ := bif_none' hg
 obtain ⟨rfl, _⟩ := outF_inv hg
 exact ⟨rfl, r221 (show Has (n22 E) 235 fn221 from ((((((((((((((((((((((H.g221.with (by decide) (by decide)).with (by decide) (by decide)).with (by decide) (by decide)).with (by decide) (by decide)).with (by decide) (by decide)).with (by decide) (by decide)).with (by decide) (by decide)).with (by decide) (by decide)).with (by decide) (by decide)).with (by decide) (by decide)).with (by decide) (by decide)).with (by decide) (by decide)).with (by decide) (by decide)).with (by decide) (by decide)).with (by decide) (by decide)).with (by decide) (by decide)).with (by decide) (by decide)).with (by decide) (by decide)).with (by decide) (by decide)).with (by decide) (by decide)).with (by decide) (by decide)).with (by decide) (by decide))) (by simp [n22, n21, n20, n19, n18, n17, n16, n15, n14, n13, n12, n11, n10, n9, n8, n7, n6, n5, n4, n3, n2, n1, with_get] : (n22 E).nat.get 234 = some tMake) ha hb (beq_eq_false_iff_ne.1 h1)⟩
theorem n24_ok (hE : EnvOk P E) (H : HasAll E) : EnvOk P (n24 E) := EnvOk.addNat (n23_ok hE H) <| ns_f2 (n23_ok hE H) fun a b c d v ha hb hc hd hg => by
 obtain ⟨h1, hg⟩ := bif_none' hg
 obtain ⟨h2, hg⟩ := bif_none hg
 rw [Bool.and_eq_true] at h2
 have hi : tFInv [vf c d] = some (vf (low d c).1 (low d c).2) := by
  refine (f1_at hc hd).trans ?_
  rw [h1]; exact outF_at (sm_of h2.1) (sm_of h2.2)
 have hv : tFMul [vf a b, vf (low d c).1 (low d c).2] = some v := (f2_at ha hb (sm_of h2.1) (sm_of h2.2)).trans hg
 obtain ⟨_, hg⟩ := bif_none' hg
 obtain ⟨rfl, _⟩ := outF_inv hg
 exact ⟨rfl, r145 (show Has (n23 E) 156 fn145 from (((((((((((((((((((((((H.g145.with (by decide) (by decide)).with (by decide) (by decide)).with (by decide) (by decide)).with (by decide) (by decide)).with (by decide) (by decide)).with (by decide) (by decide)).with (by decide) (by decide)).with (by decide) (by decide)).with (by decide) (by decide)).with (by decide) (by decide)).with (by decide) (by decide)).with (by decide) (by decide)).with (by decide) (by decide)).with (by decide) (by decide)).with (by decide) (by decide)).with (by decide) (by decide)).with (by decide) (by decide)).with (by decide) (by decide)).with (by decide) (by decide)).with (by decide) (by decide)).with (by decide) (by decide)).with (by decide) (by decide)).with (by decide) (by decide))) (by simp [n23, n22, n21, n20, n19, n18, n17, n16, n15, n14, n13, n12, n11, n10, n9, n8, n7, n6, n5, n4, n3, n2, n1, with_get] : (n23 E).nat.get 235 = some tFInv) (by simp [n23, n22, n21, n20, n19, n18, n17, n16, n15, n14, n13, n12, n11, n10, n9, n8, n7, n6, n5, n4, n3, n2, n1, with_get] : (n23 E).nat.get 153 = some tFMul) hi hv ⟨_, _, rfl⟩⟩
theorem n25_ok (hE : EnvOk P E) (H : HasAll E) : EnvOk P (n25 E) := EnvOk.addNat (n24_ok hE H) <| ns_f2 (n24_ok hE H) fun a b c d v ha hb hc hd hg => by
 injection hg with hg; subst hg
 exact ⟨rfl, r269 (show Has (n24 E) 282 fn269 from ((((((((((((((((((((((((H.g269.with (by decide) (by decide)).with (by decide) (by decide)).with (by decide) (by decide)).with (by decide) (by decide)).with (by decide) (by decide)).with (by decide) (by decide)).with (by decide) (by decide)).with (by decide) (by decide)).with (by decide) (by decide)).with (by decide) (by decide)).with (by decide) (by decide)).with (by decide) (by decide)).with (by decide) (by decide)).with (by decide) (by decide)).with (by decide) (by decide)).with (by decide) (by decide)).with (by decide) (by decide)).with (by decide) (by decide)).with (by decide) (by decide)).with (by decide) (by decide)).with (by decide) (by decide)).with (by decide) (by decide)).with (by decide) (by decide)).with (by decide) (by decide))) (by simp [n24, n23, n22, n21, n20, n19, n18, n17, n16, n15, n14, n13, n12, n11, n10, n9, n8, n7, n6, n5, n4, n3, n2, n1, with_get] : (n24 E).nat.get 197 = some tFCmp) ha hb hc hd⟩
theorem n26_ok (hE : EnvOk P E) (H : HasAll E) : EnvOk P (n26 E) := EnvOk.addNat (n25_ok hE H) <| ns_t1 (n25_ok hE H) fun a v ha hg => by
 injection hg with hg; subst hg
 exact ⟨rfl, r75 (show Has (n25 E) 93 fn75 from (((((((((((((((((((((((((H.g75.with (by decide) (by decide)).with (by decide) (by decide)).with (by decide) (by decide)).with (by decide) (by decide)).with (by decide) (by decide)).with (by decide) (by decide)).with (by decide) (by decide)).with (by decide) (by decide)).with (by decide) (by decide)).with (by decide) (by decide)).with (by decide) (by decide)).with (by decide) (by decide)).with (by decide) (by decide)).with (by decide) (by decide)).with (by decide) (by decide)).with (by decide) (by decide)).with (by decide) (by decide)).with (by decide) (by decide)).with (by decide) (by decide)).with (by decide) (by decide)).with (by decide) (by decide)).with (by decide) (by decide)).with (by decide) (by decide)).with (by decide) (by decide)).with (by decide) (by decide))) a⟩
end
end Go.Fm
namespace Go.Fm
open Go.RowKit (Below)
theorem run_ext {P : Program} {f : FuncId} {gf : Func} {e : Array Value → Sem Value} {args : Array Value} {w w' : World} {v : Value} (hf : P.funcs[f]? = some gf) (hb : gf.body.isNone = true) (hn : (gf.name == "runtime.NumGoroutine") = false) (h1 : (Extern.findNext gf).isNone = true) (h2 : Extern.find gf = some e)
  (he : (e args).run P w = .ok v w') : (callFunc f args).run P w = .ok (.value v) w' := by
 have hn' : ¬ gf.name = "runtime.NumGoroutine" := by simpa using hn
 have hb' : gf.body = none := by simpa using hb
 have h1' : Extern.findNext gf = none := by simpa using h1
 simp [callFunc, hf, hb', hn', h1', h2, he, Sem.run_bind, Result.andThen]
structure Entry (P : Program) (f : FuncId) (e : Array Value → Sem Value) : Prop where
 ex : ∃ gf, P.funcs[f]? = some gf ∧ gf.body.isNone = true ∧ (gf.name == "runtime.NumGoroutine") = false ∧ (Extern.findNext gf).isNone = true ∧ Extern.find gf = some e
section
variable [Ctx] {P : Program}
theorem ns_ext {f : FuncId} {e : Array Value → Sem Value} (h : Entry P f e) {F : List V → Option V} (hF : ∀ vs v, F vs = some v → ∀ β kn args, VA β kn vs args → ∀ w, ∃ x w', (e args).run P w = .ok x w' ∧ VR β kn v x ∧ Below w.heap.size w w') : NSpec P f F := by
 obtain ⟨gf, g1, g2, g3, g4, g5⟩ := h.ex
 intro vs v hv β kn args w hva hgl r o a next Q hnext
 obtain ⟨x, w', h1, h2, h3⟩ := hF vs v hv β kn args hva w
 rw [run_ext g1 g2 g3 g4 g5 h1]
 exact hnext x w' h2 h3
theorem va2 {β : Nat → Nat × Nat} {kn : Nat → Prop} {u v : V} {args : Array Value} (h : VA β kn [u, v] args) : ∃ x y, args = #[x, y] ∧ VR β kn u x ∧ VR β kn v y := by
 obtain ⟨h1, h2⟩ := h
 obtain ⟨l⟩ := args
 match l, h1 with
 | [x, y], _ => exact ⟨x, y, rfl, h2 0 u x rfl rfl, h2 1 v y rfl rfl⟩
theorem va1 {β : Nat → Nat × Nat} {kn : Nat → Prop} {u : V} {args : Array Value} (h : VA β kn [u] args) : ∃ x, args = #[x] ∧ VR β kn u x := by
 obtain ⟨h1, h2⟩ := h
 obtain ⟨l⟩ := args
 match l, h1 with
 | [x], _ => exact ⟨x, rfl, h2 0 u x rfl rfl⟩
def idxN (c : Nat) : List UInt8 → Nat → Int
 | [], _ => -1
 | b :: l, k => bif Nat.beq b.toNat c then Int.ofNat k else idxN c l (k + 1)
def tIndexByte : List V → Option V
 | [.str s, .int .u8 c] => bif leI 0 c && leI c 255 then some (.int .i64 (idxN c.toNat s.data.toList 0)) else none
 | _ => none
theorem idxN_eq {c : Nat} (hc : c ≤ 255) : ∀ (l : List UInt8) (k : Nat), idxN c l k = if Lib.indexByte l c.toUInt8 = -1 then -1 else Lib.indexByte l c.toUInt8 + k
 | [], k => rfl
 | b :: l, k => by
  have hb : Nat.beq b.toNat c = (b == c.toUInt8) := by
   rw [Bool.eq_iff_iff]
   simp only [Nat.beq_eq, beq_iff_eq]
   rw [← UInt8.toNat_inj]
   have : c.toUInt8.toNat = c := by
    show (UInt8.ofNat c).toNat = c
    rw [UInt8.toNat_ofNat']; omega
   rw [this]
  unfold idxN Lib.indexByte
  rw [hb, idxN_eq hc l (k + 1)]
  have hge := Lib.indexByte_ge l c.toUInt8
  cases (b == c.toUInt8) with
  | true => simp
  | false =>
   simp only [cond_false, Bool.false_eq_true, if_false, beq_iff_eq]
   split
   ·simp [*]
   ·rename_i h
    rw [if_neg (by omega)]; omega
theorem ns_indexByte {f : FuncId} (h : Entry P f Extern.BytealgIndexByte.indexByte) : NSpec P f tIndexByte := by
 refine ns_ext h fun vs v hF β kn args hva w => ?_
 unfold tIndexByte at hF
 split at hF
 ·rename_i s c
  obtain ⟨h1, hF⟩ := bif_none hF
  injection hF with hF; subst hF
  rw [Bool.and_eq_true] at h1
  have c0 := leI_iff h1.1
  have c1 := leI_iff h1.2
  obtain ⟨x, y, rfl, hx, hy⟩ := va2 hva
  cases hx
  cases hy
  refine ⟨_, w, Lib.run_indexByteString s c w, ?_, Below.refl _ _⟩
  rw [idxN_eq (by omega)]
  split
  ·rename_i e; rw [e]; exact .int _ _
  ·simp only [Int.natCast_zero, Int.add_zero]; exact .int _ _
 ·cases hF
def tSame : List V → Option V
 | [v] => some v
 | _ => none
theorem ns_same {f : FuncId} {e : Array Value → Sem Value} (he : ∀ x w, (e #[x]).run P w = .ok x w) (h : Entry P f e) : NSpec P f tSame := by
 refine ns_ext h fun vs v hF β kn args hva w => ?_
 unfold tSame at hF
 split at hF
 ·injection hF with hF; subst hF
  obtain ⟨x, rfl, hx⟩ := va1 hva
  exact ⟨x, w, he x w, hx, Below.refl _ _⟩
 ·cases hF
def cntN (c : Nat) : List UInt8 → Nat → Nat
 | [], k => k
 | b :: l, k => bif Nat.beq b.toNat c then cntN c l (k + 1) else cntN c l k
def tCount : List V → Option V
 | [.str s, .int .u8 c] => bif leI 0 c && leI c 255 then some (.int .i64 (Int.ofNat (cntN c.toNat s.data.toList 0))) else none
 | _ => none
theorem cntN_eq {c : Nat} (hc : c ≤ 255) : ∀ (l : List UInt8) (k : Nat), cntN c l k = Lib.countByte l c.toUInt8 + k
 | [], k => by simp [cntN, Lib.countByte]
 | b :: l, k => by
  have hb : Nat.beq b.toNat c = (b == c.toUInt8) := by
   rw [Bool.eq_iff_iff]
   simp only [Nat.beq_eq, beq_iff_eq]
   rw [← UInt8.toNat_inj]
   have : c.toUInt8.toNat = c := by
    show (UInt8.ofNat c).toNat = c
    rw [UInt8.toNat_ofNat']; omega
   rw [this]
  unfold cntN
  rw [hb, cntN_eq hc l (k + 1), cntN_eq hc l k]
  unfold Lib.countByte
  rw [List.count_cons]
  cases (b == c.toUInt8) with
  | true => simp; omega
  | false => simp
theorem ns_count {f : FuncId} (h : Entry P f Extern.BytealgCount.count) : NSpec P f tCount := by
 refine ns_ext h fun vs v hF β kn args hva w => ?_
 unfold tCount at hF
 split at hF
 ·rename_i s c
  obtain ⟨h1, hF⟩ := bif_none hF
  injection hF with hF; subst hF
  rw [Bool.and_eq_true] at h1
  have c0 := leI_iff h1.1
  have c1 := leI_iff h1.2
  obtain ⟨x, y, rfl, hx, hy⟩ := va2 hva
  cases hx
  cases hy
  refine ⟨_, w, Lib.run_countString s c w, ?_, Below.refl _ _⟩
  rw [cntN_eq (by omega)]
  exact .int _ _
 ·cases hF
def cmpN : List UInt8 → List UInt8 → Int
 | [], [] => 0
 | [], _ :: _ => -1
 | _ :: _, [] => 1
 | a :: as, b :: bs => bif Nat.blt a.toNat b.toNat then -1 else bif Nat.blt b.toNat a.toNat then 1 else cmpN as bs
theorem cmpN_eq : ∀ a b : List UInt8, cmpN a b = Lib.compareBytes a b
 | [], [] => rfl
 | [], _ :: _ => rfl
 | _ :: _, [] => rfl
 | a :: as, b :: bs => by
  have h : ∀ x y : UInt8, Nat.blt x.toNat y.toNat = decide (x < y) := fun x y => by
   rw [Bool.eq_iff_iff]
   simp only [decide_eq_true_eq, UInt8.lt_iff_toNat_lt]
   exact Iff.of_eq Nat.blt_eq
  unfold cmpN Lib.compareBytes
  rw [h, h, cmpN_eq as bs]
  by_cases h1 : a < b
  ·simp [h1]
  ·by_cases h2 : b < a
   ·simp [h1, h2]
   ·simp [h1, h2]
def tCmpS : List V → Option V
 | [.str s, .str u] => some (.int .i64 (cmpN s.data.toList u.data.toList))
 | _ => none
theorem ns_cmp {f : FuncId} (h : Entry P f Extern.BytealgCompare.compare) : NSpec P f tCmpS := by
 refine ns_ext h fun vs v hF β kn args hva w => ?_
 unfold tCmpS at hF
 split at hF
 ·rename_i s u
  injection hF with hF; subst hF
  obtain ⟨x, y, rfl, hx, hy⟩ := va2 hva
  cases hx
  cases hy
  refine ⟨_, w, Lib.run_compareString s u w, ?_, Below.refl _ _⟩
  rw [cmpN_eq]
  exact .int _ _
 ·cases hF
end
end Go.Fm
namespace Go.Fm
def Env'.withM (E : Env') (f : FuncId) (F : List V → Mem → Nat → Option (V × Mem × Nat)) : Env' := { E with mnat := match Tr.put E.mnat f (some F) with
 | some t => t
 | none => E.mnat }
section
variable [Ctx] {P : Program} {E : Env'}
theorem EnvOk.addM (hE : EnvOk P E) {f : FuncId} {F : List V → Mem → Nat → Option (V × Mem × Nat)} (h : MSpec P f F) : EnvOk P (E.withM f F) := by
 refine ⟨hE.nat, hE.fns, hE.sites, fun g G hg => ?_, hE.dfns, hE.mix⟩
 unfold Env'.withM at hg
 split at hg
 ·rename_i t ht
  rw [Tr.get_put ht] at hg
  by_cases hgf : g = f
  ·rw [if_pos hgf] at hg
   injection hg with hg; subst hg; subst hgf; exact h
  ·rw [if_neg hgf] at hg; exact hE.mnat g G hg
 ·exact hE.mnat g G hg
def runs (E : Env') (fu : Nat) : List FuncId → Env'
 | [] => E
 | f :: l => runs (E.withNat f (natRun E fu f)) fu l
theorem runs_ok {fu : Nat} : ∀ {l : List FuncId} {E : Env'}, EnvOk P E → EnvOk P (runs E fu l)
 | [], E, h => h
 | f :: l, E, h => runs_ok (l := l) (h.addNat (natRun_ok h fu f))
end
end Go.Fm
namespace Go.Fm
def fn176 : RFn := ⟨21,qo [qm 2 (.box 0 141),qm 3 (.box 1 141),qm 4 (.alloc [vi 0,.nils,vi 0,.nils,vi 0,.nils,vi 0,.nils,vi 0,.nils,vi 0,.nils] 141)] (.seq (.drawn [⟨[⟨0,q 5 (.idxA 3 4 2 (qI 0))⟩,⟨1,qm 6 (.load 4 true 5)⟩,⟨2,q 7 (.idxA 3 4 3 (qI 0))⟩,⟨3,qm 8 (.load 4 true 7)⟩,⟨4,qc 9 151 [6,8]⟩,⟨5,q 10 (.idxA 3 4 2 (qI 1))⟩,⟨6,qm 11 (.load 4 true 10)⟩,⟨7,q 12 (.idxA 3 4 3 (qI 1))⟩,⟨8,qm 13 (.load 4 true 12)⟩,⟨9,qc 14 151 [11,13]⟩,⟨10,q 15 (.idxA 3 4 2 (qI 2))⟩,⟨11,qm 16 (.load 4 true 15)⟩,⟨12,q 17 (.idxA 3 4 3 (qI 2))⟩,⟨13,qm 18 (.load 4 true 17)⟩,⟨14,qc 19 151 [16,18]⟩,⟨15,q 20 (.build [vi 0,.nils,vi 0,.nils,vi 0,.nils,vi 0,.nils,vi 0,.nils,vi 0,.nils] [(0,4,9),(4,4,14),(8,4,19)])⟩],[],some ⟨16,qw (.store 12 4 20)⟩,[]⟩,⟨[],[],none,[]⟩]) .ret),[(.c 4 12 true)]⟩
def fn178 : RFn := ⟨18,qo [qm 2 (.box 0 141),qm 3 (.box 1 107),qm 4 (.alloc [vi 0,.nils,vi 0,.nils,vi 0,.nils,vi 0,.nils,vi 0,.nils,vi 0,.nils] 141)] (.seq (.drawn [⟨[⟨0,q 5 (.idxA 3 4 2 (qI 0))⟩,⟨1,qm 6 (.load 4 true 5)⟩,⟨2,qm 7 (.load 4 true 3)⟩,⟨3,qc 8 153 [6,7]⟩,⟨4,q 9 (.idxA 3 4 2 (qI 1))⟩,⟨5,qm 10 (.load 4 true 9)⟩,⟨6,qm 11 (.load 4 true 3)⟩,⟨7,qc 12 153 [10,11]⟩,⟨8,q 13 (.idxA 3 4 2 (qI 2))⟩,⟨9,qm 14 (.load 4 true 13)⟩,⟨10,qm 15 (.load 4 true 3)⟩,⟨11,qc 16 153 [14,15]⟩,⟨12,q 17 (.build [vi 0,.nils,vi 0,.nils,vi 0,.nils,vi 0,.nils,vi 0,.nils,vi 0,.nils] [(0,4,8),(4,4,12),(8,4,16)])⟩],[],some ⟨13,qw (.store 12 4 17)⟩,[]⟩,⟨[],[],none,[]⟩]) .ret),[(.c 4 12 true)]⟩
def fn330 : RFn := ⟨22,qo [qm 2 (.box 0 141),qm 3 (.box 1 141),qm 4 (.alloc [vi 0,.nils,vi 0,.nils] 107)] (.seq (.drawn [⟨[⟨0,q 5 (.idxA 3 4 2 (qI 0))⟩,⟨1,qm 6 (.load 4 true 5)⟩,⟨2,q 7 (.idxA 3 4 3 (qI 0))⟩,⟨3,qm 8 (.load 4 true 7)⟩,⟨4,qc 9 153 [6,8]⟩,⟨5,q 10 (.idxA 3 4 2 (qI 1))⟩,⟨6,qm 11 (.load 4 true 10)⟩,⟨7,q 12 (.idxA 3 4 3 (qI 1))⟩,⟨8,qm 13 (.load 4 true 12)⟩,⟨9,qc 14 153 [11,13]⟩,⟨10,qc 15 151 [9,14]⟩,⟨11,q 16 (.idxA 3 4 2 (qI 2))⟩,⟨12,qm 17 (.load 4 true 16)⟩,⟨13,q 18 (.idxA 3 4 3 (qI 2))⟩,⟨14,qm 19 (.load 4 true 18)⟩,⟨15,qc 20 153 [17,19]⟩,⟨16,qc 21 151 [15,20]⟩],[],some ⟨17,qw (.store 4 4 21)⟩,[]⟩,⟨[],[],none,[]⟩]) .ret),[(.c 4 4 true)]⟩
def fn468 : RFn := ⟨21,qo [qm 2 (.box 0 141),qm 3 (.box 1 141),qm 4 (.alloc [vi 0,.nils,vi 0,.nils,vi 0,.nils,vi 0,.nils,vi 0,.nils,vi 0,.nils] 141)] (.seq (.drawn [⟨[⟨0,q 5 (.idxA 3 4 2 (qI 0))⟩,⟨1,qm 6 (.load 4 true 5)⟩,⟨2,q 7 (.idxA 3 4 3 (qI 0))⟩,⟨3,qm 8 (.load 4 true 7)⟩,⟨4,qc 9 152 [6,8]⟩,⟨5,q 10 (.idxA 3 4 2 (qI 1))⟩,⟨6,qm 11 (.load 4 true 10)⟩,⟨7,q 12 (.idxA 3 4 3 (qI 1))⟩,⟨8,qm 13 (.load 4 true 12)⟩,⟨9,qc 14 152 [11,13]⟩,⟨10,q 15 (.idxA 3 4 2 (qI 2))⟩,⟨11,qm 16 (.load 4 true 15)⟩,⟨12,q 17 (.idxA 3 4 3 (qI 2))⟩,⟨13,qm 18 (.load 4 true 17)⟩,⟨14,qc 19 152 [16,18]⟩,⟨15,q 20 (.build [vi 0,.nils,vi 0,.nils,vi 0,.nils,vi 0,.nils,vi 0,.nils,vi 0,.nils] [(0,4,9),(4,4,14),(8,4,19)])⟩],[],some ⟨16,qw (.store 12 4 20)⟩,[]⟩,⟨[],[],none,[]⟩]) .ret),[(.c 4 12 true)]⟩
def fn261 : RFn := ⟨13,qo [qm 1 (.box 0 141),qm 2 (.alloc [vi 0,.nils,vi 0,.nils,vi 0,.nils,vi 0,.nils,vi 0,.nils,vi 0,.nils] 141)] (.seq (.drawn [⟨[⟨0,q 3 (.idxA 3 4 1 (qI 0))⟩,⟨1,qm 4 (.load 4 true 3)⟩,⟨2,qc 5 149 [4]⟩,⟨3,q 6 (.idxA 3 4 1 (qI 1))⟩,⟨4,qm 7 (.load 4 true 6)⟩,⟨5,qc 8 149 [7]⟩,⟨6,q 9 (.idxA 3 4 1 (qI 2))⟩,⟨7,qm 10 (.load 4 true 9)⟩,⟨8,qc 11 149 [10]⟩,⟨9,q 12 (.build [vi 0,.nils,vi 0,.nils,vi 0,.nils,vi 0,.nils,vi 0,.nils,vi 0,.nils] [(0,4,5),(4,4,8),(8,4,11)])⟩],[],some ⟨10,qw (.store 12 2 12)⟩,[]⟩,⟨[],[],none,[]⟩]) .ret),[(.c 2 12 true)]⟩
def fn331 : RFn := ⟨39,qo [qm 2 (.box 0 141),qm 3 (.box 1 141),qm 4 (.alloc [vi 0,.nils,vi 0,.nils,vi 0,.nils,vi 0,.nils,vi 0,.nils,vi 0,.nils] 141)] (.seq (.drawn [⟨[⟨0,q 5 (.idxA 3 4 2 (qI 1))⟩,⟨1,qm 6 (.load 4 true 5)⟩,⟨2,q 7 (.idxA 3 4 3 (qI 2))⟩,⟨3,qm 8 (.load 4 true 7)⟩,⟨4,qc 9 153 [6,8]⟩,⟨5,q 10 (.idxA 3 4 2 (qI 2))⟩,⟨6,qm 11 (.load 4 true 10)⟩,⟨7,q 12 (.idxA 3 4 3 (qI 1))⟩,⟨8,qm 13 (.load 4 true 12)⟩,⟨9,qc 14 153 [11,13]⟩,⟨10,qc 15 152 [9,14]⟩,⟨11,q 16 (.idxA 3 4 2 (qI 2))⟩,⟨12,qm 17 (.load 4 true 16)⟩,⟨13,q 18 (.idxA 3 4 3 (qI 0))⟩,⟨14,qm 19 (.load 4 true 18)⟩,⟨15,qc 20 153 [17,19]⟩,⟨16,q 21 (.idxA 3 4 2 (qI 0))⟩,⟨17,qm 22 (.load 4 true 21)⟩,⟨18,q 23 (.idxA 3 4 3 (qI 2))⟩,⟨19,qm 24 (.load 4 true 23)⟩,⟨20,qc 25 153 [22,24]⟩,⟨21,qc 26 152 [20,25]⟩,⟨22,q 27 (.idxA 3 4 2 (qI 0))⟩,⟨23,qm 28 (.load 4 true 27)⟩,⟨24,q 29 (.idxA 3 4 3 (qI 1))⟩,⟨25,qm 30 (.load 4 true 29)⟩,⟨26,qc 31 153 [28,30]⟩,⟨27,q 32 (.idxA 3 4 2 (qI 1))⟩,⟨28,qm 33 (.load 4 true 32)⟩,⟨29,q 34 (.idxA 3 4 3 (qI 0))⟩,⟨30,qm 35 (.load 4 true 34)⟩,⟨31,qc 36 153 [33,35]⟩,⟨32,qc 37 152 [31,36]⟩,⟨33,q 38 (.build [vi 0,.nils,vi 0,.nils,vi 0,.nils,vi 0,.nils,vi 0,.nils,vi 0,.nils] [(0,4,15),(4,4,26),(8,4,37)])⟩],[],some ⟨34,qw (.store 12 4 38)⟩,[]⟩,⟨[],[],none,[]⟩]) .ret),[(.c 4 12 true)]⟩
def va (a b c d e f : Int) : V := .agg [.int .i64 a, .nils, .int .i64 b, .nils, .int .i64 c, .nils, .int .i64 d, .nils, .int .i64 e, .nils, .int .i64 f, .nils]
section
variable {E : Env'}
attribute [local irreducible] callK
theorem r176 (h : Has E 186 fn176) (h140 : E.nat.get 151 = some tFAdd) {a b c d e f a' b' c' d' e' f' p q r s t u : Int} (h1 : tFAdd [vf a b, vf a' b'] = some (vf p q)) (h2 : tFAdd [vf c d, vf c' d'] = some (vf r s)) (h3 : tFAdd [vf e f, vf e' f'] = some (vf t u)) :
  Gives E 186 [va a b c d e f, va a' b' c' d' e' f'] (va p q r s t u) := by
 refine h.gives 50 ?_
 conv => arg 2; whnf
 refine Ok.opt h140 ?_
 refine Ok.opt h1 ?_
 conv => arg 2; whnf
 refine Ok.opt h140 ?_
 refine Ok.opt h2 ?_
 conv => arg 2; whnf
 refine Ok.opt h140 ?_
 refine Ok.opt h3 ?_
 conv => arg 2; whnf
 exact Ok.done rfl
theorem r178 (h : Has E 188 fn178) (h142 : E.nat.get 153 = some tFMul) {a b c d e f a' b' p q r s t u : Int} (h1 : tFMul [vf a b, vf a' b'] = some (vf p q)) (h2 : tFMul [vf c d, vf a' b'] = some (vf r s)) (h3 : tFMul [vf e f, vf a' b'] = some (vf t u)) :
  Gives E 188 [va a b c d e f, vf a' b'] (va p q r s t u) := by
 refine h.gives 50 ?_
 conv => arg 2; whnf
 refine Ok.opt h142 ?_
 refine Ok.opt h1 ?_
 conv => arg 2; whnf
 refine Ok.opt h142 ?_
 refine Ok.opt h2 ?_
 conv => arg 2; whnf
 refine Ok.opt h142 ?_
 refine Ok.opt h3 ?_
 conv => arg 2; whnf
 exact Ok.done rfl
theorem r330 (h : Has E 341 fn330) (h140 : E.nat.get 151 = some tFAdd) (h142 : E.nat.get 153 = some tFMul) {a b c d e f a' b' c' d' e' f' p1 p2 p3 p4 p5 q1 q2 q3 q4 q5 : Int} (g0 : tFMul [vf a b, vf a' b'] = some (vf p1 q1)) (g1 : tFMul [vf c d, vf c' d'] = some (vf p2 q2)) (g2 : tFAdd [vf p1 q1, vf p2 q2] = some (vf p3 q3)) (g3 : tFMul [vf e f, vf e' f'] = some (vf p4 q4)) (g4 : tFAdd [vf p3 q3, vf p4 q4] = some (vf p5 q5)) :
  Gives E 341 [va a b c d e f, va a' b' c' d' e' f'] (vf p5 q5) := by
 refine h.gives 50 ?_
 conv => arg 2; whnf
 refine Ok.opt h142 ?_
 refine Ok.opt g0 ?_
 conv => arg 2; whnf
 refine Ok.opt h142 ?_
 refine Ok.opt g1 ?_
 conv => arg 2; whnf
 refine Ok.opt h140 ?_
 refine Ok.opt g2 ?_
 conv => arg 2; whnf
 refine Ok.opt h142 ?_
 refine Ok.opt g3 ?_
 conv => arg 2; whnf
 refine Ok.opt h140 ?_
 refine Ok.opt g4 ?_
 conv => arg 2; whnf
 exact Ok.done rfl
theorem r468 (h : Has E 480 fn468) (h141 : E.nat.get 152 = some tFSub) {a b c d e f a' b' c' d' e' f' p0 p1 p2 q0 q1 q2 : Int} (g0 : tFSub [vf a b, vf a' b'] = some (vf p0 q0)) (g1 : tFSub [vf c d, vf c' d'] = some (vf p1 q1)) (g2 : tFSub [vf e f, vf e' f'] = some (vf p2 q2)) :
  Gives E 480 [va a b c d e f, va a' b' c' d' e' f'] (va p0 q0 p1 q1 p2 q2) := by
 refine h.gives 50 ?_
 conv => arg 2; whnf
 refine Ok.opt h141 ?_
 refine Ok.opt g0 ?_
 conv => arg 2; whnf
 refine Ok.opt h141 ?_
 refine Ok.opt g1 ?_
 conv => arg 2; whnf
 refine Ok.opt h141 ?_
 refine Ok.opt g2 ?_
 conv => arg 2; whnf
 exact Ok.done rfl
theorem r261 (h : Has E 274 fn261) (h138 : E.nat.get 149 = some tFNeg) {a b c d e f p0 p1 p2 q0 q1 q2 : Int} (g0 : tFNeg [vf a b] = some (vf p0 q0)) (g1 : tFNeg [vf c d] = some (vf p1 q1)) (g2 : tFNeg [vf e f] = some (vf p2 q2)) :
  Gives E 274 [va a b c d e f] (va p0 q0 p1 q1 p2 q2) := by
 refine h.gives 50 ?_
 conv => arg 2; whnf
 refine Ok.opt h138 ?_
 refine Ok.opt g0 ?_
 conv => arg 2; whnf
 refine Ok.opt h138 ?_
 refine Ok.opt g1 ?_
 conv => arg 2; whnf
 refine Ok.opt h138 ?_
 refine Ok.opt g2 ?_
 conv => arg 2; whnf
 exact Ok.done rfl
theorem r331 (h : Has E 342 fn331) (h141 : E.nat.get 152 = some tFSub) (h142 : E.nat.get 153 = some tFMul) {a b c d e f a' b' c' d' e' f' p01 p02 p03 p11 p12 p13 p21 p22 p23 q01 q02 q03 q11 q12 q13 q21 q22 q23 : Int} (g0 : tFMul [vf c d, vf e' f'] = some (vf p01 q01)) (g1 : tFMul [vf e f, vf c' d'] = some (vf p02 q02)) (g2 : tFSub [vf p01 q01, vf p02 q02] = some (vf p03 q03)) (g3 : tFMul [vf e f, vf a' b'] = some (vf p11 q11)) (g4 : tFMul [vf a b, vf e' f'] = some (vf p12 q12)) (g5 : tFSub [vf p11 q11, vf p12 q12] = some (vf p13 q13)) (g6 : tFMul [vf a b, vf c' d'] = some (vf p21 q21)) (g7 : tFMul [vf c d, vf a' b'] = some (vf p22 q22)) (g8 : tFSub [vf p21 q21, vf p22 q22] = some (vf p23 q23)) :
  Gives E 342 [va a b c d e f, va a' b' c' d' e' f'] (va p03 q03 p13 q13 p23 q23) := by
 refine h.gives 50 ?_
 conv => arg 2; whnf
 refine Ok.opt h142 ?_
 refine Ok.opt g0 ?_
 conv => arg 2; whnf
 refine Ok.opt h142 ?_
 refine Ok.opt g1 ?_
 conv => arg 2; whnf
 refine Ok.opt h141 ?_
 refine Ok.opt g2 ?_
 conv => arg 2; whnf
 refine Ok.opt h142 ?_
 refine Ok.opt g3 ?_
 conv => arg 2; whnf
 refine Ok.opt h142 ?_
 refine Ok.opt g4 ?_
 conv => arg 2; whnf
 refine Ok.opt h141 ?_
 refine Ok.opt g5 ?_
 conv => arg 2; whnf
 refine Ok.opt h142 ?_
 refine Ok.opt g6 ?_
 conv => arg 2; whnf
 refine Ok.opt h142 ?_
 refine Ok.opt g7 ?_
 conv => arg 2; whnf
 refine Ok.opt h141 ?_
 refine Ok.opt g8 ?_
 conv => arg 2; whnf
 exact Ok.done rfl
end
end Go.Fm
namespace Go.Fm
def b1 (o : Option V) (k : Int → Int → Option V) : Option V := match o with
 | some (.agg [.int .i64 p, .nils, .int .i64 q, .nils]) => k p q
 | _ => none
theorem b1_inv {o : Option V} {k : Int → Int → Option V} {v : V} (h : b1 o k = some v) : ∃ p q, o = some (vf p q) ∧ k p q = some v := by
 unfold b1 at h
 split at h
 ·rename_i p q; exact ⟨p, q, rfl, h⟩
 ·cases h
def on1 (g : Int → Int → Int → Int → Int → Int → Option V) : List V → Option V
 | [.agg [.int .i64 a, .nils, .int .i64 b, .nils, .int .i64 c, .nils, .int .i64 d, .nils, .int .i64 e, .nils, .int .i64 f, .nils]] => g a b c d e f
 | _ => none
def on2 (g : Int → Int → Int → Int → Int → Int → Int → Int → Int → Int → Int → Int → Option V) : List V → Option V
 | [.agg [.int .i64 a, .nils, .int .i64 b, .nils, .int .i64 c, .nils, .int .i64 d, .nils, .int .i64 e, .nils, .int .i64 f, .nils], .agg [.int .i64 a', .nils, .int .i64 b', .nils, .int .i64 c', .nils, .int .i64 d', .nils, .int .i64 e', .nils, .int .i64 f', .nils]] => g a b c d e f a' b' c' d' e' f'
 | _ => none
def onS (g : Int → Int → Int → Int → Int → Int → Int → Int → Option V) : List V → Option V
 | [.agg [.int .i64 a, .nils, .int .i64 b, .nils, .int .i64 c, .nils, .int .i64 d, .nils, .int .i64 e, .nils, .int .i64 f, .nils], .agg [.int .i64 a', .nils, .int .i64 b', .nils]] => g a b c d e f a' b'
 | _ => none
theorem on1_inv {g : Int → Int → Int → Int → Int → Int → Option V} {vs : List V} {v : V} (h : on1 g vs = some v) : ∃ a b c d e f, vs = [va a b c d e f] ∧ g a b c d e f = some v := by
 unfold on1 at h
 split at h
 ·exact ⟨_, _, _, _, _, _, rfl, h⟩
 ·cases h
theorem on2_inv {g : Int → Int → Int → Int → Int → Int → Int → Int → Int → Int → Int → Int → Option V} {vs : List V} {v : V} (h : on2 g vs = some v) : ∃ a b c d e f a' b' c' d' e' f', vs = [va a b c d e f, va a' b' c' d' e' f'] ∧ g a b c d e f a' b' c' d' e' f' = some v := by
 unfold on2 at h
 split at h
 ·exact ⟨_, _, _, _, _, _, _, _, _, _, _, _, rfl, h⟩
 ·cases h
theorem onS_inv {g : Int → Int → Int → Int → Int → Int → Int → Int → Option V} {vs : List V} {v : V} (h : onS g vs = some v) : ∃ a b c d e f a' b', vs = [va a b c d e f, vf a' b'] ∧ g a b c d e f a' b' = some v := by
 unfold onS at h
 split at h
 ·exact ⟨_, _, _, _, _, _, _, _, rfl, h⟩
 ·cases h
def tVAdd := on2 fun a b c d e f a' b' c' d' e' f' => b1 (tFAdd [vf a b, vf a' b']) fun p0 q0 => b1 (tFAdd [vf c d, vf c' d']) fun p1 q1 => b1 (tFAdd [vf e f, vf e' f']) fun p2 q2 => some (va p0 q0 p1 q1 p2 q2)
def tVSub := on2 fun a b c d e f a' b' c' d' e' f' => b1 (tFSub [vf a b, vf a' b']) fun p0 q0 => b1 (tFSub [vf c d, vf c' d']) fun p1 q1 => b1 (tFSub [vf e f, vf e' f']) fun p2 q2 => some (va p0 q0 p1 q1 p2 q2)
def tVScale := onS fun a b c d e f a' b' => b1 (tFMul [vf a b, vf a' b']) fun p0 q0 => b1 (tFMul [vf c d, vf a' b']) fun p1 q1 => b1 (tFMul [vf e f, vf a' b']) fun p2 q2 => some (va p0 q0 p1 q1 p2 q2)
def tVNeg := on1 fun a b c d e f => b1 (tFNeg [vf a b]) fun p0 q0 => b1 (tFNeg [vf c d]) fun p1 q1 => b1 (tFNeg [vf e f]) fun p2 q2 => some (va p0 q0 p1 q1 p2 q2)
def tVDot := on2 fun a b c d e f a' b' c' d' e' f' => b1 (tFMul [vf a b, vf a' b']) fun p1 q1 => b1 (tFMul [vf c d, vf c' d']) fun p2 q2 => b1 (tFAdd [vf p1 q1, vf p2 q2]) fun p3 q3 => b1 (tFMul [vf e f, vf e' f']) fun p4 q4 => b1 (tFAdd [vf p3 q3, vf p4 q4]) fun p5 q5 => some (vf p5 q5)
def tVCross := on2 fun a b c d e f a' b' c' d' e' f' => b1 (tFMul [vf c d, vf e' f']) fun p01 q01 => b1 (tFMul [vf e f, vf c' d']) fun p02 q02 => b1 (tFSub [vf p01 q01, vf p02 q02]) fun p03 q03 => b1 (tFMul [vf e f, vf a' b']) fun p11 q11 => b1 (tFMul [vf a b, vf e' f']) fun p12 q12 => b1 (tFSub [vf p11 q11, vf p12 q12]) fun p13 q13 => b1 (tFMul [vf a b, vf c' d']) fun p21 q21 => b1 (tFMul [vf c d, vf a' b']) fun p22 q22 => b1 (tFSub [vf p21 q21, vf p22 q22]) fun p23 q23 => some (va p03 q03 p13 q13 p23 q23)
section
variable [Ctx] {P : Program} {E : Env'}
theorem ns_tVAdd (hE : EnvOk P E) (h : Has E 186 fn176) (h140 : E.nat.get 151 = some tFAdd) : NSpec P 186 tVAdd := by
 refine nspec_of_gives hE fun vs v hF => ?_
 unfold tVAdd at hF
 obtain ⟨a, b, c, d, e, f, a', b', c', d', e', f', rfl, hF⟩ := on2_inv hF
 obtain ⟨_, _, g0, hF⟩ := b1_inv hF
 obtain ⟨_, _, g1, hF⟩ := b1_inv hF
 obtain ⟨_, _, g2, hF⟩ := b1_inv hF
 injection hF with hF; subst hF
 exact ⟨rfl, rfl, r176 h h140 g0 g1 g2⟩
theorem ns_tVSub (hE : EnvOk P E) (h : Has E 480 fn468) (h141 : E.nat.get 152 = some tFSub) : NSpec P 480 tVSub := by
 refine nspec_of_gives hE fun vs v hF => ?_
 unfold tVSub at hF
 obtain ⟨a, b, c, d, e, f, a', b', c', d', e', f', rfl, hF⟩ := on2_inv hF
 obtain ⟨_, _, g0, hF⟩ := b1_inv hF
 obtain ⟨_, _, g1, hF⟩ := b1_inv hF
 obtain ⟨_, _, g2, hF⟩ := b1_inv hF
 injection hF with hF; subst hF
 exact ⟨rfl, rfl, r468 h h141 g0 g1 g2⟩
theorem ns_tVScale (hE : EnvOk P E) (h : Has E 188 fn178) (h142 : E.nat.get 153 = some tFMul) : NSpec P 188 tVScale := by
 refine nspec_of_gives hE fun vs v hF => ?_
 unfold tVScale at hF
 obtain ⟨a, b, c, d, e, f, a', b', rfl, hF⟩ := onS_inv hF
 obtain ⟨_, _, g0, hF⟩ := b1_inv hF
 obtain ⟨_, _, g1, hF⟩ := b1_inv hF
 obtain ⟨_, _, g2, hF⟩ := b1_inv hF
 injection hF with hF; subst hF
 exact ⟨rfl, rfl, r178 h h142 g0 g1 g2⟩
theorem ns_tVNeg (hE : EnvOk P E) (h : Has E 274 fn261) (h138 : E.nat.get 149 = some tFNeg) : NSpec P 274 tVNeg := by
 refine nspec_of_gives hE fun vs v hF => ?_
 unfold tVNeg at hF
 obtain ⟨a, b, c, d, e, f, rfl, hF⟩ := on1_inv hF
 obtain ⟨_, _, g0, hF⟩ := b1_inv hF
 obtain ⟨_, _, g1, hF⟩ := b1_inv hF
 obtain ⟨_, _, g2, hF⟩ := b1_inv hF
 injection hF with hF; subst hF
 exact ⟨rfl, rfl, r261 h h138 g0 g1 g2⟩
theorem ns_tVDot (hE : EnvOk P E) (h : Has E 341 fn330) (h140 : E.nat.get 151 = some tFAdd) (h142 : E.nat.get 153 = some tFMul) : NSpec P 341 tVDot := by
 refine nspec_of_gives hE fun vs v hF => ?_
 unfold tVDot at hF
 obtain ⟨a, b, c, d, e, f, a', b', c', d', e', f', rfl, hF⟩ := on2_inv hF
 obtain ⟨_, _, g0, hF⟩ := b1_inv hF
 obtain ⟨_, _, g1, hF⟩ := b1_inv hF
 obtain ⟨_, _, g2, hF⟩ := b1_inv hF
 obtain ⟨_, _, g3, hF⟩ := b1_inv hF
 obtain ⟨_, _, g4, hF⟩ := b1_inv hF
 injection hF with hF; subst hF
 exact ⟨rfl, rfl, r330 h h140 h142 g0 g1 g2 g3 g4⟩
theorem ns_tVCross (hE : EnvOk P E) (h : Has E 342 fn331) (h141 : E.nat.get 152 = some tFSub) (h142 : E.nat.get 153 = some tFMul) : NSpec P 342 tVCross := by
 refine nspec_of_gives hE fun vs v hF => ?_
 unfold tVCross at hF
 obtain ⟨a, b, c, d, e, f, a', b', c', d', e', f', rfl, hF⟩ := on2_inv hF
 obtain ⟨_, _, g0, hF⟩ := b1_inv hF
 obtain ⟨_, _, g1, hF⟩ := b1_inv hF
 obtain ⟨_, _, g2, hF⟩ := b1_inv hF
 obtain ⟨_, _, g3, hF⟩ := b1_inv hF
 obtain ⟨_, _, g4, hF⟩ := b1_inv hF
 obtain ⟨_, _, g5, hF⟩ := b1_inv hF
 obtain ⟨_, _, g6, hF⟩ := b1_inv hF
 obtain ⟨_, _, g7, hF⟩ := b1_inv hF
 obtain ⟨_, _, g8, hF⟩ := b1_inv hF
 injection hF with hF; subst hF
 exact ⟨rfl, rfl, r331 h h141 h142 g0 g1 g2 g3 g4 g5 g6 g7 g8⟩
end
end Go.Fm
namespace Go.Fm
open Go.Conc
def cellAt (k : IntKind) (m : Mem) (id off : Nat) : Option (List V × TypeId × Int) := match m.get id with
 | some (.cells cs T) => match cs[off]? with
  | some (.int k' v) => bif k' == k then some (cs, T, v) else none
  | _ => none
 | _ => none
def putCell (k : IntKind) (m : Mem) (id off : Nat) (q : List V × TypeId × Int) (x : Int) : Option Mem := Tr.set fuel m id (some (.cells (q.1.take off ++ [.int k x] ++ q.1.drop (off + 1)) q.2.1))
def tLdA (k : IntKind) : List V → Mem → Nat → Option (V × Mem × Nat) := fun vs m n => match vs with
 | [.ptr id off] => (cellAt k m id off).map fun q => (.int k q.2.2, m, n)
 | _ => none
def tStA (k : IntKind) : List V → Mem → Nat → Option (V × Mem × Nat) := fun vs m n => match vs with
 | [.ptr id off, .int k' x] => bif k' == k then (cellAt k m id off).bind fun q => (putCell k m id off q x).map fun m' => (.tup [], m', n) else none
 | _ => none
def tAddA (k : IntKind) : List V → Mem → Nat → Option (V × Mem × Nat) := fun vs m n => match vs with
 | [.ptr id off, .int k' d] => bif k' == k then (cellAt k m id off).bind fun q => (putCell k m id off q (k.wrap (q.2.2 + d))).map fun m' => (.int k (k.wrap (q.2.2 + d)), m', n) else none
 | _ => none
def tCasA (k : IntKind) : List V → Mem → Nat → Option (V × Mem × Nat) := fun vs m n => match vs with
 | [.ptr id off, .int k' old, .int k'' new] => bif k' == k && k'' == k then (cellAt k m id off).bind fun q => bif q.2.2 == old then (putCell k m id off q new).map fun m' => (.bool true, m', n) else some (.bool false, m, n) else none
 | _ => none
section
variable [Ctx] {P : Program} {β : Nat → Nat × Nat} {kn : Nat → Prop} {m m' : Mem} {w : World}
theorem cellAt_ok {k : IntKind} {id off : Nat} {q : List V × TypeId × Int} (h : cellAt k m id off = some q) : m.get id = some (.cells q.1 q.2.1) ∧ q.1[off]? = some (.int k q.2.2) := by
 unfold cellAt at h
 split at h
 ·rename_i cs T hm
  split at h
  ·rename_i k' v hv
   obtain ⟨h1, h2⟩ := bif_none h
   have : k' = k := by simpa using h1
   subst this
   injection h2 with h2; subst h2
   exact ⟨hm, hv⟩
  ·cases h
 ·cases h
theorem cell_ok (hms : MS β kn m w) {k : IntKind} {id off : Nat} {q : List V × TypeId × Int} (h : cellAt k m id off = some q) : w.cell? ⟨(β id).1, off, none⟩ = some (.int k q.2.2) ∧ w.frozen? ⟨(β id).1, off, none⟩ = false := by
 obtain ⟨h1, h2⟩ := cellAt_ok h
 obtain ⟨_, arr, hb, hsz, hr⟩ := hms.blk id _ h1
 have hoff : off < q.1.length := (gEs h2).1
 have hlt : off < arr.size := by have := hr.1; omega
 have hx : arr[off]? = some (arr[off]'hlt) := Array.getElem?_eq_getElem hlt
 have hv := hr.2 off _ (arr[off]'hlt) h2 (by rw [Nat.zero_add]; exact hx)
 generalize arr[off]'hlt = y at hx hv
 cases hv with
 | int k n =>
 refine ⟨by simp [World.cell?, hb, hx], ?_⟩
 simp [World.frozen?, hb]
theorem put_ok (hms : MS β kn m w) {k : IntKind} {id off : Nat} {q : List V × TypeId × Int} (h : cellAt k m id off = some q) {x : Int} (hp : putCell k m id off q x = some m') (n : Nat) : Goes β kn m w β (KN kn n n) m' (w.setCell ⟨(β id).1, off, none⟩ (.int k x)) := by
 obtain ⟨h1, h2⟩ := cellAt_ok h
 obtain ⟨c1, c2⟩ := cell_ok hms h
 have hoff : off < q.1.length := (gEs h2).1
 have hrow : VRow β kn #[Value.int k x] 0 [V.int k x] := by
  refine ⟨by simp, fun i u y e1 e2 => ?_⟩
  match i with
  | 0 => simp at e1 e2; subst e1 e2; exact .int _ _
  | i + 1 => simp at e1
 obtain ⟨w', g1, g2⟩ := store_row (P := default) (vs := [V.int k x]) hms h1 hrow rfl (by simp; omega) rfl hp n
 have e : (storeCells ⟨(β id).1, off, none⟩ #[Value.int k x].toList).run default w = .ok () (w.setCell ⟨(β id).1, off, none⟩ (.int k x)) := by
  simp [storeCells, Addr.add, run_store default w ⟨(β id).1, off, none⟩ (.int k x) .plain rfl, c1, c2, Result.andThen]
 rw [e] at g1
 injection g1 with _ g1
 subst g1; exact g2
theorem ms_ext {f : FuncId} {e : Array Value → Sem Value} (h : Entry P f e) {F : List V → Mem → Nat → Option (V × Mem × Nat)} (hF : ∀ vs m n v m' n', F vs m n = some (v, m', n') → Mo m n m' n' ∧ ∀ β kn args w, MS β kn m w → VA β kn vs args → Fresh kn n n' → ∃ β' x w', (e args).run P w = .ok x w' ∧ Goes β kn m w β' (KN kn n n') m' w' ∧ VR β' (KN kn n n') v x) : MSpec P f F := by
 obtain ⟨gf, g1, g2, g3, g4, g5⟩ := h.ex
 intro vs m n v m' n' hv
 obtain ⟨mo, hh⟩ := hF vs m n v m' n' hv
 refine ⟨mo, fun β kn args w hms hva hfr r o a next Q hnext => ?_⟩
 obtain ⟨β', x, w', h1, h2, h3⟩ := hh β kn args w hms hva hfr
 rw [run_ext g1 g2 g3 g4 g5 h1]
 exact hnext β' x w' h2 h3
theorem putCell_mo {k : IntKind} {id off n : Nat} {q : List V × TypeId × Int} {x : Int} (h : cellAt k m id off = some q) (hp : putCell k m id off q x = some m') : Mo m n m' n := Mo.set hp (by rw [(cellAt_ok h).1]; rfl)
theorem va3 {u v x : V} {args : Array Value} (h : VA β kn [u, v, x] args) : ∃ a b c, args = #[a, b, c] ∧ VR β kn u a ∧ VR β kn v b ∧ VR β kn x c := by
 obtain ⟨h1, h2⟩ := h
 obtain ⟨l⟩ := args
 match l, h1 with
 | [a, b, c], _ => exact ⟨a, b, c, rfl, h2 0 u a rfl rfl, h2 1 v b rfl rfl, h2 2 x c rfl rfl⟩
theorem ms_ld {f : FuncId} {k : IntKind} (h : Entry P f (Extern.Atomic.loadT (.int k))) : MSpec P f (tLdA k) := ms_ext h fun vs m n v m' n' hF => by
 unfold tLdA at hF
 split at hF
 ·rename_i id off
  simp only [oMs, pMi] at hF
  obtain ⟨q, hq, rfl, rfl, rfl⟩ := hF
  refine ⟨Mo.refl _ _, fun β kn args w hms hva hfr => ?_⟩
  obtain ⟨x, rfl, hx⟩ := va1 hva
  cases hx with
  | ptr id off hk =>
  obtain ⟨c1, c2⟩ := cell_ok hms hq
  refine ⟨β, .int k q.2.2, w, ?_, Goes.same hms n, .int _ _⟩
  have hdef : Extern.Atomic.loadT (.int k) #[.pointer (some ⟨(β id).1, off, none⟩)] = (do Extern.Atomic.read (.int k) (← asAddr (.pointer (some ⟨(β id).1, off, none⟩)))) := rfl
  rw [hdef]
  simp [Extern.Atomic.read, asAddr, c1, Result.andThen]
 ·cases hF
theorem ms_st {f : FuncId} {k : IntKind} (h : Entry P f Extern.Atomic.storeT) : MSpec P f (tStA k) := ms_ext h fun vs m n v m' n' hF => by
 unfold tStA at hF
 split at hF
 ·rename_i id off k' x
  obtain ⟨hk, hF⟩ := bif_none hF
  have : k' = k := by simpa using hk
  subst this
  simp only [oBs, oMs, pMi] at hF
  obtain ⟨q, hq, m2, hp, rfl, rfl, rfl⟩ := hF
  refine ⟨putCell_mo hq hp, fun β kn args w hms hva hfr => ?_⟩
  obtain ⟨a, b, rfl, ha, hb⟩ := va2 hva
  cases ha with
  | ptr id off hkn =>
  cases hb with
  | int k x =>
  obtain ⟨c1, c2⟩ := cell_ok hms hq
  refine ⟨β, .tuple #[], w.setCell ⟨(β id).1, off, none⟩ (.int k' x), ?_, put_ok hms hq hp n, .tup [] #[] rfl fun i v x e1 _ => by simp at e1⟩
  have hdef : Extern.Atomic.storeT #[.pointer (some ⟨(β id).1, off, none⟩), .int k' x] = (do
   store (← asAddr (.pointer (some ⟨(β id).1, off, none⟩))) (.int k' x) .atomic
   pure Extern.Atomic.none_) := rfl
  rw [hdef]
  simp [Extern.Atomic.none_, asAddr, run_store P w ⟨(β id).1, off, none⟩ (.int k' x) .atomic rfl, c1, c2, Result.andThen]
 ·cases hF
theorem ms_add {f : FuncId} {k : IntKind} (h : Entry P f (Extern.Atomic.update (Op.intArith .add) k true)) : MSpec P f (tAddA k) := ms_ext h fun vs m n v m' n' hF => by
 unfold tAddA at hF
 split at hF
 ·rename_i id off k' x
  obtain ⟨hk, hF⟩ := bif_none hF
  have : k' = k := by simpa using hk
  subst this
  simp only [oBs, oMs, pMi] at hF
  obtain ⟨q, hq, m2, hp, rfl, rfl, rfl⟩ := hF
  refine ⟨putCell_mo hq hp, fun β kn args w hms hva hfr => ?_⟩
  obtain ⟨a, b, rfl, ha, hb⟩ := va2 hva
  cases ha with
  | ptr id off hkn =>
  cases hb with
  | int k x =>
  obtain ⟨c1, c2⟩ := cell_ok hms hq
  exact ⟨β, _, _, run_add_entry c1 c2, put_ok hms hq hp n, .int _ _⟩
 ·cases hF
theorem ms_cas {f : FuncId} {k : IntKind} (h : Entry P f (Extern.Atomic.casT (.int k))) : MSpec P f (tCasA k) := ms_ext h fun vs m n v m' n' hF => by
 unfold tCasA at hF
 split at hF
 ·rename_i id off k' old k'' new
  obtain ⟨hk, hF⟩ := bif_none hF
  simp only [Bool.and_eq_true, beq_iff_eq] at hk
  obtain ⟨rfl, rfl⟩ := hk
  simp only [oBs] at hF
  obtain ⟨q, hq, hF⟩ := hF
  cases he : (q.2.2 == old) with
  | true =>
   rw [he] at hF
   simp only [cond_true, oMs, pMi] at hF
   obtain ⟨m2, hp, rfl, rfl, rfl⟩ := hF
   refine ⟨putCell_mo hq hp, fun β kn args w hms hva hfr => ?_⟩
   obtain ⟨a, b, c, rfl, ha, hb, hc⟩ := va3 hva
   cases ha with
   | ptr id off hkn =>
   cases hb with
   | int k x =>
   cases hc with
   | int k y =>
   obtain ⟨c1, c2⟩ := cell_ok hms hq
   have e : q.2.2 = old := by simpa using he
   rw [e] at c1
   exact ⟨β, _, _, by rw [casT_eq]; exact run_cas_hit_entry c1 c2, put_ok hms hq hp n, .bool _⟩
  | false =>
   rw [he] at hF
   simp only [cond_false, oSi, pMi] at hF
   obtain ⟨rfl, rfl, rfl⟩ := hF
   refine ⟨Mo.refl _ _, fun β kn args w hms hva hfr => ?_⟩
   obtain ⟨a, b, c, rfl, ha, hb, hc⟩ := va3 hva
   cases ha with
   | ptr id off hkn =>
   cases hb with
   | int k x =>
   cases hc with
   | int k y =>
   obtain ⟨c1, c2⟩ := cell_ok hms hq
   have e : ¬ q.2.2 = old := by simpa using he
   exact ⟨β, _, _, by rw [casT_eq]; exact run_cas_miss_entry c1 c2 e, Goes.same hms n, .bool _⟩
 ·cases hF
def tMkA (T : TypeId) : List V → Mem → Nat → Option (V × Mem × Nat) := fun vs m n => match vs with
 | [.int .i64 k] => bif leI 0 k && leI k 16777216 then newB m n (replV [.u] k.toNat) T (.sl n 0 k.toNat none 1) else none
 | _ => none
theorem replV_len : ∀ k : Nat, (replV [.u] k).length = k
 | 0 => rfl
 | k + 1 => by
  show ([V.u] ++ replV [.u] k).length = k + 1
  simp [replV_len k]
theorem replV_at : ∀ (k i : Nat) (v : V), (replV [.u] k)[i]? = some v → v = .u
 | 0, i, v, h => by simp [replV] at h
 | k + 1, 0, v, h => by
  have h' : ([V.u] ++ replV [.u] k)[0]? = some v := h
  simp at h'; exact h'.symm
 | k + 1, i + 1, v, h => by
  have h' : ([V.u] ++ replV [.u] k)[i + 1]? = some v := h
  simp at h'
  exact replV_at k i v h'
theorem ms_mk {f : FuncId} {ps : Array TypeId} {t T : TypeId} (ht : P.underlying t = some (.slice T)) (h : Entry P f (Extern.BytealgMakeNoZero.makeNoZero ps #[t])) : MSpec P f (tMkA T) := ms_ext h fun vs m n v m' n' hF => by
 unfold tMkA at hF
 split at hF
 ·rename_i k
  obtain ⟨hk, hF⟩ := bif_none hF
  simp only [Bool.and_eq_true, leI, decide_eq_true_eq] at hk
  obtain ⟨j, rfl⟩ := Int.eq_ofNat_of_zero_le hk.1
  have hj : j ≤ 16777216 := by omega
  have hmo : n' = n + 1 ∧ v = .sl n 0 j none 1 := by
   simp only [newB, oMs, pMi] at hF
   obtain ⟨_, _, rfl, rfl, rfl⟩ := hF
   exact ⟨rfl, rfl⟩
  refine ⟨?_, fun β kn args w hms hva hfr => ?_⟩
  ·simp only [newB, oMs, pMi] at hF
   obtain ⟨m2, h1, rfl, rfl, rfl⟩ := hF
   refine ⟨by omega, fun id b hb => ?_⟩
   rw [Tr.get_set h1] at hb
   by_cases hi : id = n
   ·exact .inr (by omega)
   ·rw [if_neg hi] at hb; exact .inl (by rw [hb]; rfl)
  ·obtain ⟨rfl, rfl⟩ := hmo
   obtain ⟨x, rfl, hx⟩ := va1 hva
   cases hx with
   | int k x =>
   obtain ⟨cs, hr, hle, _⟩ := Lib.run_makeNoZero (P := P) w ps t T ht j (by omega)
   have hrow : VRow β kn cs 0 (replV [.u] j) := ⟨by rw [replV_len]; omega, fun i u y e1 _ => by rw [replV_at _ _ _ e1]; exact .u y⟩
   obtain ⟨_, _, hg⟩ := newB_ok hms (hn := fun _ => hfr n (Nat.le_refl _) (by omega)) hF hrow (w1 := w.drew.drew) ⟨rfl, rfl, rfl, rfl⟩
   refine ⟨_, _, _, hr, hg, ?_⟩
   have := VR.sl (β := fun i => if i = n then (w.heap.size, cs.size) else β i) (kn := KN kn n (n + 1)) n 0 j none 1 cs.size 0 (kn_new kn n) hle (by simp) (by simp) (.inl rfl)
   simpa using this
 ·cases hF
def tNone0 : List V → Option V
 | [] => some (.tup [])
 | _ => none
def tNone1 : List V → Option V
 | [.ptr _ _] => some (.tup [])
 | _ => none
theorem ns_none0 {f : FuncId} {e : Array Value → Sem Value} (he : ∀ w, (e #[]).run P w = .ok (.tuple #[]) w) (h : Entry P f e) : NSpec P f tNone0 := by
 refine ns_ext h fun vs v hF β kn args hva w => ?_
 unfold tNone0 at hF
 split at hF
 ·injection hF with hF; subst hF
  have : args = #[] := by
   obtain ⟨l⟩ := args
   have := hva.1
   simp at this
   rw [this]
  subst this
  exact ⟨_, w, he w, .tup [] #[] rfl (by simp), RowKit.Below.refl _ _⟩
 ·cases hF
theorem ns_none1 {f : FuncId} {e : Array Value → Sem Value} (he1 : ∀ a w, (e #[.pointer (some a)]).run P w = .ok (.tuple #[]) w) (h : Entry P f e) : NSpec P f tNone1 := by
 refine ns_ext h fun vs v hF β kn args hva w => ?_
 unfold tNone1 at hF
 split at hF
 ·injection hF with hF; subst hF
  obtain ⟨x, rfl, hx⟩ := va1 hva
  cases hx
  exact ⟨_, w, he1 _ w, .tup [] #[] rfl (by simp), RowKit.Below.refl _ _⟩
 ·cases hF
end
end Go.Fm
namespace Go.Fm
section
variable [Ctx] {P : Program} {E : Env'}
theorem ms_nil {f : FuncId} : MSpec P f (deepF []) := fun vs m n v m' n' h => by cases h
theorem ms_cons {f : FuncId} {e : Ent} {l : List Ent} (h1 : MSpec P f (deepF [e])) (h2 : MSpec P f (deepF l)) : MSpec P f (deepF (e :: l)) := by
 intro vs m n v m' n' h
 unfold deepF at h
 split at h
 ·rename_i r hr
  injection h with h; subst h
  refine h1 vs m n v m' n' ?_
  unfold deepF
  rw [hr]
 ·exact h2 vs m n v m' n' h
theorem ms_row (hE : EnvOk P E) {f : FuncId} {e : Ent} (fu : Nat) {l : List (FuncId × Ent)} (h : (l.all fun q => chkRow q.2 (callK E fu (.f q.1) q.2.vs (memOf q.2.pre) q.2.n)) = true) (hm : (f, e) ∈ l) : MSpec P f (deepF [e]) :=
 deep_ok hE fun e' he => by
  rw [List.mem_singleton] at he
  subst he
  exact row_of fu (List.all_eq_true.1 h _ hm)
end
end Go.Fm
namespace Go.Fm
section
variable [Ctx] {P : Program}
theorem ns_of_ms {f : FuncId} {F : List V → Option V} {G : List V → Mem → Nat → Option (V × Mem × Nat)} (h : MSpec P f G) (hF : ∀ vs v, F vs = some v → pureV.pureL vs = true ∧ pureV v = true ∧ ∃ m' n', G vs .nil 0 = some (v, m', n')) : NSpec P f F := by
 intro vs v hv β kn args w hva hgl r o a next Q hnext
 obtain ⟨hp, hpv, m', n', he⟩ := hF vs v hv
 obtain ⟨_, hc⟩ := h vs .nil 0 v m' n' he
 refine hc (fun _ => (0, 0)) (fun _ => False) args w ⟨fun id b e => by simp [Tr.get_nil] at e, fun i j b c e => by simp [Tr.get_nil] at e, fun q hq => ⟨hgl q hq, fun id c e => by simp [Tr.get_nil] at e⟩⟩ ⟨hva.1, fun i u x e1 e2 => (hva.2 i u x e1 e2).pure (pureL_get hp e1)⟩ (fun _ _ _ h => h) r o a next Q
  fun β' x w' hg hx => hnext x w' (hx.pure hpv) ⟨hg.fr.os, hg.fr.tape, hg.fr.output, hg.fr.size, fun b hb => hg.fr.block b hb fun id c e => by simp [Tr.get_nil] at e⟩
end
end Go.Fm
end
