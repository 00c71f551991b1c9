/- Laws, part 4. No condition. -/
import Derived.Test.YtdfcjloangkbhaaGreatDoorL03
set_option linter.all false
set_option maxRecDepth 100000
set_option maxHeartbeats 4000000
noncomputable section
set_option maxHeartbeats 4000000
namespace Go.Va
open Go.Proofs
noncomputable def tbl:Nat→TL
 |0=>[te 9,te 13,te 16,te 17,te 18,te 20,te 25,te 28,te 29]
 |1=>[te 33,te 34,te 35,te 36,te 38,te 39,te 40,te 41,te 42,te 43,te 44,te 46,te 49,te 50,te 51,te 52,te 62,te 63]
 |2=>[te 64,te 65,te 69,te 70,te 71,te 72,te 73,te 74,te 75,te 76,te 77,te 78,te 81,te 82,te 87,te 89,te 91,te 94]
 |3=>[te 103,te 104,te 105,te 106,te 107,te 108,te 109,te 110,te 111,te 112,te 113,te 114,te 115,te 116,te 122,te 123,te 124]
 |4=>[te 140,te 141,te 142,te 143,te 144,te 145,te 146,te 147,te 148,te 149,te 150,te 151,te 152,te 153,te 154,te 156,te 157,te 158,te 159]
 |5=>[te 161,te 162,te 171,te 178,te 179,te 180,te 181,te 182,te 183,te 184,te 185,te 186,te 187,te 188,te 189,te 190,te 191]
 |6=>[te 192,te 193,te 194,te 197,te 198,te 200,te 201,te 202,te 203,te 204,te 205,te 206,te 207,te 208,te 209,te 212,te 213,te 214,te 215,te 216,te 217,te 218,te 222]
 |7=>[te 227,te 228,te 229,te 230,te 231,te 234,te 236,te 237,te 241,te 242,te 243,te 244,te 245,te 246,te 247,te 248,te 249,te 250,te 251,te 254]
 |8=>[te 259,te 260,te 261,te 262,te 265,te 266,te 267,te 268,te 270,te 271,te 272,te 273,te 274,te 275,te 277,te 278,te 287]
 |9=>[te 288,te 293,te 295,te 296,te 297,te 298,te 299,te 300,te 301,te 302,te 304,te 305,te 306,te 308,te 309,te 310,te 311,te 312,te 313,te 314,te 315,te 316,te 317,te 318,te 319]
 |10=>[te 320,te 321,te 322,te 323,te 326,te 327,te 328,te 329,te 330,te 331,te 335,te 336,te 337,te 338,te 339,te 340,te 348,te 349,te 350,te 351]
 |11=>[te 353,te 354,te 355,te 359,te 360,te 361,te 362,te 363,te 364,te 365,te 366,te 368,te 370,te 371,te 372,te 373,te 374,te 376,te 377,te 379,te 380,te 382]
 |12=>[te 385,te 386,te 387,te 388,te 389,te 390,te 391,te 392,te 393,te 394,te 395,te 396,te 397,te 405,te 413,te 414,te 415]
 |13=>[te 417,te 418,te 425,te 426,te 427,te 428,te 429,te 430,te 433,te 434,te 436,te 437,te 441,te 443,te 444,te 445]
 |14=>[te 448,te 450,te 451,te 452,te 453,te 454,te 455,te 459,te 462,te 467,te 468,te 472,te 473,te 474,te 476]
 |15=>[te 480,te 488,te 492,te 493,te 494,te 496,te 497]
 |16=>[te 517,te 518,te 534,te 536]
 |_=>[]
theorem tbl_ok (k:Nat):(tbl k).all ck=true:=by unfold tbl;split<;>kernel_rfl
noncomputable def TL7:Tbl:=λf=>lookT (tbl (f/32)) f
theorem TL7_ok:∀f n ac rs,TL7 f=some (n,ac,rs)→chkF Tryz.prog GLx f n ac rs=true:=λf n ac rs h=>lookT_ok (tbl_ok (f/32)) f n ac rs h
def npL (f:Nat):Bool:=[33,40,46,112,120,144,145,153,178,187,188,190,213,260,265,291,310,328,335,340,371,373,397,426,516].any (Nat.beq f)
end Go.Va
